/- The law FnExactParseFact answers true for every relations and text that the row admits: both texts read alike, the arguments are left as they were, and the result is memory of its own. -/
import Derived.Test.YtdpaopfghggiaaaDoorGFnExactParseFact
import Derived.Test.YtdpaopfghggiaaaDoorBase
import Derived.Lib.ItoaLen
namespace Go.Proofs.YtdpaopfghggiaaaDoor.Pure
open Go.RowKit Go.Proofs.YtdpaopfghggiaaaDoor.PFnExactParseFact Go.Proofs.YtdpaopfghggiaaaDoorW.PrintWords Go.Proofs.YtdpaopfghggiaaaDoorW.PrintLast Go.Proofs.YtdpaopfghggiaaaDoorW.PrintMore Go.Proofs.YtdpaopfghggiaaaDoor.Base
set_option linter.unusedVariables false
set_option linter.unusedSimpArgs false

/-! ### relations: what the laws' own functions on them come to -/
def cvR (x : S25) : S28 := ⟨x.f0, x.f1, x.f2⟩

theorem szR (n a b v : _) (hn : n.size ≤ maxLen) (hv : 0 ≤ v) (hv1 : v ≤ 1048576) : ∃ r, laws_szRelation.f n a b v = some r ∧ r ≤ v ∧ -1 ≤ r ∧ (0 ≤ r → (n.size : Int) ≤ v) := by
  unfold maxLen at hn
  unfold laws_szRelation.f
  rw [w64 (by omega) (by omega)]
  by_cases h : v - (n.size : Int) < 0
  · exact ⟨-1, if_pos h, by omega, by omega, fun h => absurd h (by decide)⟩
  · exact ⟨_, if_neg h, by omega, by omega, fun _ => by omega⟩

theorem szRSl (l : List S25) (hl : l.length ≤ maxLen) (hg : ∀ y ∈ l, y.f0.size ≤ maxLen) (d : Nat) : ∀ (i v : Int), 0 ≤ i → (l.length : Int) - i = d → 0 ≤ v → v ≤ 1048576 → ∃ r, r ≤ v ∧ -1 ≤ r ∧ ∀ k, d < k → laws_szRelationS.l0 k l v i = some r := by
  unfold maxLen at hl
  induction d with
  | zero =>
    intro i v h0 hd hv _
    refine ⟨v, by omega, by omega, fun k hk => ?_⟩
    obtain ⟨k, rfl, hk⟩ := fuel hk
    rw [laws_szRelationS.l0, if_neg (by omega)]
  | succ d ih =>
    intro i v h0 hd hv hv1
    obtain ⟨r, hr, h1, h2, _⟩ := szR (rd_T25 l i).f0 (rd_T25 l i).f1 (rd_T25 l i).f2 v (hg _ (getD_mem l _ _ (by omega))) hv hv1
    by_cases hneg : r < 0
    · refine ⟨-1, by omega, by omega, fun k hk => ?_⟩
      obtain ⟨k, rfl, hk⟩ := fuel hk
      rw [laws_szRelationS.l0, if_pos (by omega), if_pos h0, hr]
      simp only [Option.bind_some]
      rw [if_pos hneg]
    · obtain ⟨r', h3, h4, h5⟩ := ih (i + 1) r (by omega) (by omega) (by omega) (by omega)
      refine ⟨r', by omega, h4, fun k hk => ?_⟩
      obtain ⟨k, rfl, hk⟩ := fuel hk
      rw [laws_szRelationS.l0, if_pos (by omega), if_pos h0, hr]
      simp only [Option.bind_some]
      rw [if_neg hneg, w64 (by omega) (by omega)]
      exact h5 k (by omega)

theorem szRS (l : List S25) (hl : l.length ≤ maxLen) (hg : ∀ y ∈ l, y.f0.size ≤ maxLen) (v : Int) (hv : 0 ≤ v) (hv1 : v ≤ 1048576) : ∃ r, r ≤ v ∧ -1 ≤ r ∧ (0 ≤ r → (l.length : Int) ≤ v) ∧ ∀ k, l.length < k → laws_szRelationS.f k l v = some r := by
  have hl' := hl
  unfold maxLen at hl'
  unfold laws_szRelationS.f
  rw [w64 (by omega) (by omega)]
  by_cases h : v - (l.length : Int) < 0
  · exact ⟨-1, by omega, by omega, fun h => absurd h (by decide), fun k _ => if_pos h⟩
  · obtain ⟨r, h1, h2, h3⟩ := szRSl l hl hg l.length 0 (v - l.length) (by omega) (by omega) (by omega) (by omega)
    exact ⟨r, by omega, h2, fun _ => by omega, fun k hk => by rw [if_neg h]; exact h3 k hk⟩

theorem toRSl (l : List S25) (hl : l.length ≤ 1048576) (d : Nat) : ∀ (i : Nat) (xs : List S28), (l.length : Int) - i = d → xs.length = l.length → xs.take i = (l.take i).map cvR → ∀ k, d < k → laws_toRelationS.l0 k l xs i = some (l.map cvR) := by
  induction d with
  | zero =>
    intro i xs hd hx ht k hk
    obtain ⟨k, rfl, hk⟩ := fuel hk
    rw [laws_toRelationS.l0, if_neg (by omega)]
    rw [List.take_of_length_le (by omega), List.take_of_length_le (by omega)] at ht
    rw [ht]
  | succ d ih =>
    intro i xs hd hx ht k hk
    obtain ⟨k, rfl, hk⟩ := fuel hk
    rw [laws_toRelationS.l0, if_pos (by omega), if_pos (by omega), laws_toRelation.f]
    simp only [Option.bind_some]
    rw [if_pos (by omega), show wrap64 ((i : Int) + 1) = ((i + 1 : Nat) : Int) by rw [w64 (by omega) (by omega)]; omega]
    refine ih (i + 1) _ (by omega) (by simpa using hx) ?_ k (by omega)
    rw [Int.toNat_natCast, take_set_succ _ _ _ (by omega), take_map_succ cvR z25 l i (by omega), ht]
    rfl

theorem toRS (l : List S25) (hl : l.length ≤ 1048576) (k : Nat) (hk : l.length < k) : laws_toRelationS.f k l = some (l.map cvR) := by
  unfold laws_toRelationS.f
  rw [if_pos (by omega), Int.toNat_natCast, if_pos (by omega)]
  exact toRSl l hl l.length 0 _ (by omega) (by simp) (by simp) k hk

theorem eqR (a : S28) : laws_eqRelation.f a.f0 a.f1 a.f2 a.f0 a.f1 a.f2 = some true := by
  unfold laws_eqRelation.f
  rw [if_pos rfl, if_pos rfl, if_pos rfl]
theorem eqRSl (l : List S28) (hl : l.length ≤ 1048576) (d : Nat) : ∀ (i : Int), 0 ≤ i → (l.length : Int) - i = d → ∀ k, d < k → laws_eqRelationS.l0 k l l i = some true := by
  induction d with
  | zero =>
    intro i h0 hd k hk
    obtain ⟨k, rfl, hk⟩ := fuel hk
    rw [laws_eqRelationS.l0, if_neg (by omega)]
  | succ d ih =>
    intro i h0 hd k hk
    obtain ⟨k, rfl, hk⟩ := fuel hk
    rw [laws_eqRelationS.l0, if_pos (by omega), if_pos h0, if_pos (by omega), eqR]
    simp only [Option.bind_some, if_true]
    rw [w64 (by omega) (by omega)]
    exact ih (i + 1) (by omega) (by omega) k (by omega)
theorem eqRS (l : List S28) (hl : l.length ≤ 1048576) (k : Nat) (hk : l.length < k) : laws_eqRelationS.f k l l = some true := by
  unfold laws_eqRelationS.f
  rw [if_pos rfl]
  exact eqRSl l hl l.length 0 (by omega) (by omega) k hk

theorem eqIl (l : List Int) (hl : l.length ≤ 1048576) (d : Nat) : ∀ (i : Int), 0 ≤ i → (l.length : Int) - i = d → ∀ k, d < k → laws_eqIntS.l0 k l l i = some true := by
  induction d with
  | zero =>
    intro i h0 hd k hk
    obtain ⟨k, rfl, hk⟩ := fuel hk
    rw [laws_eqIntS.l0, if_neg (by omega)]
  | succ d ih =>
    intro i h0 hd k hk
    obtain ⟨k, rfl, hk⟩ := fuel hk
    rw [laws_eqIntS.l0, if_pos (by omega), if_pos h0, if_pos (by omega), if_pos rfl, w64 (by omega) (by omega)]
    exact ih (i + 1) (by omega) (by omega) k (by omega)
theorem eqI (l : List Int) (hl : l.length ≤ 1048576) (k : Nat) (hk : l.length < k) : laws_eqIntS.f k l l = some true := by
  unfold laws_eqIntS.f
  rw [if_pos rfl]
  exact eqIl l hl l.length 0 (by omega) (by omega) k hk
theorem eqF (a : Int) (l : List Int) (hl : l.length ≤ 1048576) (k : Nat) (hk : l.length < k) : laws_eqFact.f k a l a l = some true := by
  unfold laws_eqFact.f
  rw [if_pos rfl, eqI l hl k hk]
  rfl

/-! ### valid facts -/
/-- A fact of these relations: its relation is one of them, it has vs many values vs that one asks, each a value. -/
def fits (l : List S28) (a : Int) (vs : List Int) : Bool := decide (0 ≤ a ∧ a < (l.length : Int) ∧ (vs.length : Int) = (rd_T28 l a).f1) && !vs.any noVal
def vFact (l : List S28) (a : Int) (vs : List Int) : Bool := vRels l && fits l a vs

theorem in1 (x a b : Int) : spec_l1In.f x a b = some (decide (a ≤ x ∧ x ≤ b)) := by
  unfold spec_l1In.f
  by_cases h : a ≤ x
  · rw [if_pos h]; simp [h]
  · rw [if_neg h]; simp [h]
theorem vFSl (a : Int) (vs : List Int) (hs : vs.length ≤ 1048576) (d : Nat) : ∀ (i : Nat), i + d = vs.length → ∀ k, d < k → spec_IsValidFact.l0 k i a vs = some (!(vs.drop i).any noVal) := by
  induction d with
  | zero =>
    intro i hd k hk
    obtain ⟨k, rfl, hk⟩ := fuel hk
    rw [spec_IsValidFact.l0, if_neg (by omega), List.drop_of_length_le (by omega)]
    rfl
  | succ d ih =>
    intro i hd k hk
    obtain ⟨k, rfl, hk⟩ := fuel hk
    rw [spec_IsValidFact.l0, if_pos (by omega), if_pos (by omega), in1, Option.bind_some, List.drop_eq_getElem_cons (i := i) (l := vs) (by omega), List.any_cons]
    rw [show wrap64 ((i : Int) + 1) = ((i + 1 : Nat) : Int) by rw [w64 (by omega) (by omega)]; omega, show rd vs (i : Int) = vs[i] by unfold rd; rw [Int.toNat_natCast, getD_lt vs _ i (by omega)]]
    by_cases h : 0 ≤ vs[i] ∧ vs[i] ≤ 9
    · rw [if_pos (by simpa using h), ih (i + 1) (by omega) k (by omega)]
      have : noVal vs[i] = false := by simp [noVal, h]
      rw [this, Bool.false_or]
    · rw [if_neg (by simpa using h)]
      have : noVal vs[i] = true := by
        unfold noVal
        by_cases h1 : 0 ≤ vs[i]
        · have h2 : ¬ vs[i] ≤ 9 := fun h2 => h ⟨h1, h2⟩
          simp [h2]
        · simp [h1]
      rw [this, Bool.true_or]
      rfl
theorem vFS (l : List S28) (hl : l.length ≤ 1048576) (a : Int) (vs : List Int) (hs : vs.length ≤ 1048576) (k : Nat) (hk : vs.length + 1 < k) : spec_IsValidFact.f k l a vs = some (vFact l a vs) := by
  obtain ⟨k, rfl⟩ : ∃ z, k = z + 1 := ⟨k - 1, by omega⟩
  unfold spec_IsValidFact.f spec_AreValidRelations.f vFact fits
  rw [Option.bind_some, in1, Option.bind_some, w64 (by omega) (by omega)]
  by_cases h0 : vRels l = true
  · rw [if_pos h0]
    by_cases h1 : 0 ≤ a ∧ a < (l.length : Int)
    · rw [if_pos (by simpa using (by omega : 0 ≤ a ∧ a ≤ (l.length : Int) - 1)), if_pos h1.1, if_pos h1.2, spec_IsValidFact.j0]
      by_cases h2 : (vs.length : Int) = (rd_T28 l a).f1
      · rw [if_neg (by simpa using h2), show (0 : Int) = ((0 : Nat) : Int) from rfl, vFSl a vs hs vs.length 0 (by omega) k (by omega), h0, decide_eq_true (by exact ⟨h1.1, h1.2, h2⟩)]
        simp
      · rw [if_pos (by simpa using h2), decide_eq_false (by intro h; exact h2 h.2.2)]
        simp
    · rw [if_neg (by simpa using (by omega : 0 ≤ a → ¬ a ≤ (l.length : Int) - 1)), spec_IsValidFact.j0, if_pos rfl, decide_eq_false (by intro h; exact h1 ⟨h.1, h.2.1⟩)]
      simp
  · rw [if_neg h0, spec_IsValidFact.j0, if_pos rfl]
    simp [h0]
theorem fitI (l : List S28) (hl : l.length ≤ 9223372036854775807) (a : Int) (vs : List Int) : impl_isFact.f l a vs = some (fits l a vs) := by
  unfold impl_isFact.f impl_areValues.f fits
  rw [inI, Option.bind_some, Option.bind_some, w64 (by omega) (by omega)]
  by_cases h1 : 0 ≤ a ∧ a < (l.length : Int)
  · rw [if_pos (by unfold inB; simpa using (by omega : 0 ≤ a ∧ a ≤ (l.length : Int) - 1)), if_pos h1.1, if_pos h1.2]
    by_cases h2 : (vs.length : Int) = (rd_T28 l a).f1
    · rw [if_pos h2, decide_eq_true (by exact ⟨h1.1, h1.2, h2⟩)]
      simp
    · rw [if_neg h2, decide_eq_false (by intro h; exact h2 h.2.2)]
      simp
  · rw [if_neg (by unfold inB; simpa using (by omega : 0 ≤ a → ¬ a ≤ (l.length : Int) - 1)), decide_eq_false (by intro h; exact h1 ⟨h.1, h.2.1⟩)]
    simp


/-! ### valid facts, the program's own question -/
theorem vFI (l : List S28) (hl : l.length ≤ 1048576) (a : Int) (vs : List Int) : impl_IsValidFact.f l a vs = some (vFact l a vs) := by
  unfold impl_IsValidFact.f impl_AreValidRelations.f vFact
  rw [Option.bind_some, fitI l (by omega), Option.bind_some]
  by_cases h0 : vRels l = true
  · rw [if_pos h0, h0]; rfl
  · rw [if_neg h0]; simp [h0]

theorem inB_iff (x a b : Int) : inB x a b = true ↔ a ≤ x ∧ x ≤ b := by unfold inB; exact decide_eq_true_iff
theorem vRelsFrom_at (l : List S28) : ∀ (d i : Nat), vRelsFrom l d i = true → ∀ j, i ≤ j → j < i + d → vRel (l.getD j z28) = true
  | 0, i, _, j, h1, h2 => by omega
  | d + 1, i, h, j, h1, h2 => by
    rw [vRelsFrom, Bool.and_eq_true, Bool.and_eq_true] at h
    by_cases hj : j = i
    · subst hj
      exact h.1.1
    · exact vRelsFrom_at l d (i + 1) h.2 j (by omega) (by omega)
theorem vRels_at (l : List S28) (h : vRels l = true) (a : Int) (h0 : 0 ≤ a) (h1 : a < (l.length : Int)) : vRel (rd_T28 l a) = true := by
  unfold rd_T28
  exact vRelsFrom_at l l.length 0 h a.toNat (by omega) (by omega)
theorem fits_iff (l : List S28) (a : Int) (vs : List Int) : fits l a vs = true ↔ (0 ≤ a ∧ a < (l.length : Int) ∧ (vs.length : Int) = (rd_T28 l a).f1) ∧ vs.any noVal = false := by
  unfold fits
  rw [Bool.and_eq_true, decide_eq_true_iff, Bool.not_eq_true']
theorem key_ok (l : List S28) (hr : vRels l = true) (a : Int) (vs : List Int) (h : fits l a vs = true) :
    0 ≤ a ∧ a < (l.length : Int) ∧ 0 ≤ (rd_T28 l a).f2 ∧ (rd_T28 l a).f2 ≤ (vs.length : Int) ∧ (vs.length : Int) = (rd_T28 l a).f1 ∧ vs.length ≤ 3 := by
  obtain ⟨⟨h0, h1, h2⟩, _⟩ := (fits_iff l a vs).1 h
  have hv := vRels_at l hr a h0 h1
  unfold vRel at hv
  rw [Bool.and_eq_true, Bool.and_eq_true, inB_iff, inB_iff] at hv
  exact ⟨h0, h1, by omega, by omega, h2, by omega⟩

/-- What FormatInt lays for a number's magnitude: nothing for 0, else its digits. -/
def dig (u : Nat) : List UInt8 := if u = 0 then [] else Lib.decDigits u
theorem dig_step (u : Nat) (h : 0 < u) : dig u = dig (u / 10) ++ [UInt8.ofNat (48 + u % 10)] := by
  unfold dig
  rw [if_neg (by omega), Lib.decDigits]
  by_cases c : u < 10
  · rw [dif_pos c, if_pos (by omega), List.nil_append, Nat.mod_eq_of_lt c]
  · rw [dif_neg c, if_neg (by omega)]
theorem sn_cons (z : Int) (l : List UInt8) : strOfNums [z] ++ (⟨l.toArray⟩ : ByteArray) = ⟨(UInt8.ofNat z.toNat :: l).toArray⟩ := by
  apply ByteArray.ext
  apply Array.ext'
  rw [ByteArray.data_append, Array.toList_append, sn_toList]
  simp
theorem sz_mk (l : List UInt8) : (⟨l.toArray⟩ : ByteArray).size = l.length := by
  rw [show (⟨l.toArray⟩ : ByteArray).size = (⟨l.toArray⟩ : ByteArray).data.size from rfl]; simp
def fin (neg : Bool) (l : List UInt8) : ByteArray := if neg = true then ⟨(45 :: l).toArray⟩ else ⟨l.toArray⟩
theorem fil (d : Nat) : ∀ (u : Nat) (x : Int) (neg : Bool) (l : List UInt8), (x = u ∨ x = -(u : Int)) → u < 10 ^ d → u ≤ 9223372036854775808 → l.length + d ≤ 1000 → ∀ k, d < k → spec_FormatInt.l0 k x ⟨l.toArray⟩ neg = some (fin neg (dig u ++ l)) := by
  induction d with
  | zero =>
    intro u x neg l hx hu _ hl k hk
    obtain ⟨k, rfl, hk⟩ := fuel hk
    rw [Nat.pow_zero] at hu
    rw [spec_FormatInt.l0, if_pos (by omega), show u = 0 by omega]
    unfold fin dig
    rw [if_pos rfl, List.nil_append]
    by_cases h : neg = true
    · rw [if_pos h, if_pos h, if_pos (by rw [sz_mk]; omega)]
      congr 1
    · rw [if_neg h, if_neg h]
  | succ d ih =>
    intro u x neg l hx hu hb hl k hk
    obtain ⟨k, rfl, hk⟩ := fuel hk
    by_cases h0 : u = 0
    · rw [spec_FormatInt.l0, if_pos (by omega), h0]
      unfold fin dig
      rw [if_pos rfl, List.nil_append]
      by_cases h : neg = true
      · rw [if_pos h, if_pos h, if_pos (by rw [sz_mk]; omega)]
        congr 1
      · rw [if_neg h, if_neg h]
    · have hm : Int.tmod x 10 = (u % 10 : Nat) ∨ Int.tmod x 10 = -((u % 10 : Nat) : Int) := by
        rcases hx with rfl | rfl
        · left; rw [Int.tmod_eq_emod_of_nonneg (by omega)]; omega
        · right; rw [Int.neg_tmod, Int.tmod_eq_emod_of_nonneg (by omega)]; omega
      have hd : Int.tdiv x 10 = (u / 10 : Nat) ∨ Int.tdiv x 10 = -((u / 10 : Nat) : Int) := by
        rcases hx with rfl | rfl
        · left; rw [Int.tdiv_eq_ediv_of_nonneg (by omega)]; omega
        · right; rw [Int.neg_tdiv, Int.tdiv_eq_ediv_of_nonneg (by omega)]; omega
      have h1 : (strOfNums [((48 + u % 10 : Nat) : Int)]).size = 1 := by rw [sn_size]; rfl
      have hs := ih (u / 10) (Int.tdiv x 10) neg (UInt8.ofNat (48 + u % 10) :: l) hd (by rw [Nat.pow_succ] at hu; omega) (by omega) (by simp only [List.length_cons]; omega) k (by omega)
      have hz : wrap64 (Int.tdiv x 10) = Int.tdiv x 10 := w64 (by omega) (by omega)
      have hn : ∀ z : Int, z = ((u % 10 : Nat) : Int) → wrap64 (48 + z) % 256 = ((48 + u % 10 : Nat) : Int) := by
        intro z e
        rw [w64 (by omega) (by omega)]
        omega
      have hfin : spec_FormatInt.l0 k (wrap64 (Int.tdiv x 10)) (strOfNums [((48 + u % 10 : Nat) : Int)] ++ ⟨l.toArray⟩) neg = some (fin neg (dig u ++ l)) := by
        rw [hz, sn_cons, Int.toNat_natCast, hs, dig_step u (by omega), List.append_assoc]
        rfl
      rw [spec_FormatInt.l0, if_neg (by omega)]
      by_cases hc : Int.tmod x 10 < 0
      · rw [if_pos hc, Option.bind_some, hn _ (by rw [w64 (by omega) (by omega)]; omega), if_pos (by rw [h1, sz_mk]; omega)]
        exact hfin
      · rw [if_neg hc, Option.bind_some, hn _ (by omega), if_pos (by rw [h1, sz_mk]; omega)]
        exact hfin
theorem fiS (n : Int) (h0 : -9223372036854775808 ≤ n) (h1 : n ≤ 9223372036854775807) (k : Nat) (hk : 30 < k) : spec_FormatInt.f k n = some ⟨(Lib.itoa n).toArray⟩ := by
  unfold spec_FormatInt.f
  by_cases h : n = 0
  · rw [if_pos h, h]
    unfold Lib.itoa
    rw [if_neg (by omega), show (0 : Int).toNat = 0 from rfl, Lib.decDigits, dif_pos (by omega)]
    rfl
  · rw [if_neg h]
    have hp : (10 : Nat) ^ 20 = 100000000000000000000 := by decide
    have := fil 20 n.natAbs n (decide (n < 0)) [] (by omega) (by omega) (by omega) (by simp) k (by omega)
    rw [show (⟨#[]⟩ : ByteArray) = ⟨([] : List UInt8).toArray⟩ from rfl, this, List.append_nil]
    unfold fin dig Lib.itoa
    rw [if_neg (show ¬ n.natAbs = 0 by omega)]
    by_cases hn : n < 0
    · rw [if_pos (decide_eq_true hn), if_pos hn]
    · rw [if_neg (by simpa using hn), if_neg hn, show n.natAbs = n.toNat by omega]

theorem vRel_sz (x : S28) (h : vRel x = true) : x.f0.size ≤ 1048576 := by
  unfold vRel at h
  rw [Bool.and_eq_true, Bool.and_eq_true, decide_eq_true_iff] at h
  have := h.1.1.1
  omega
theorem fiI (n : Int) (h0 : -9223372036854775808 ≤ n) (h1 : n ≤ 9223372036854775807) : impl_FormatInt.f n = some ⟨(Lib.itoa n).toArray⟩ := by
  unfold impl_FormatInt.f strconv_Itoa_52.f
  rw [if_pos h0, if_pos h1, Option.bind_some]
def numB (v : Int) : ByteArray := ⟨(Lib.itoa v).toArray⟩
theorem numB_sz (v : Int) (h0 : -9223372036854775808 ≤ v) (h1 : v ≤ 9223372036854775807) : (numB v).size ≤ 21 := by
  unfold numB; rw [sz_mk]; exact Lib.itoa_length_le v h0 h1

def ffs (f2 : Nat) : Nat → List Int → ByteArray → ByteArray
  | _, [], s => s
  | i, v :: vs, s => ffs f2 (i + 1) vs ((if i = f2 then s ++ (⟨#[124]⟩ : ByteArray) else s) ++ numB v)
theorem ffSl (l : List S28) (a : Int) (ha : 0 ≤ a) (ha' : a < (l.length : Int)) (f2 : Nat) (h2 : (rd_T28 l a).f2 = f2) (vs : List Int) (hn : vs.length ≤ 3) (hb : ∀ v ∈ vs, -9223372036854775808 ≤ v ∧ v ≤ 9223372036854775807) (d : Nat) : ∀ (i : Nat) (s : ByteArray), i + d = vs.length → s.size + 30 * d ≤ 1000000000 → ∀ k, d + 40 < k → spec_FormatFact.l0 k l s i a vs = some (ffs f2 i (vs.drop i) s) := by
  induction d with
  | zero =>
    intro i s hd _ k hk
    obtain ⟨k, rfl, hk⟩ := fuel hk
    rw [spec_FormatFact.l0, if_neg (by omega), List.drop_eq_nil_of_le (by omega), ffs]
  | succ d ih =>
    intro i s hd hs k hk
    obtain ⟨k, rfl, hk⟩ := fuel hk
    have hv := hb vs[i] (List.getElem_mem _)
    have hz := numB_sz vs[i] hv.1 hv.2
    have hr : rd vs (i : Int) = vs[i] := by unfold rd; rw [Int.toNat_natCast, getD_lt _ _ i (by omega)]
    have l1 : (⟨#[124]⟩ : ByteArray).size = 1 := rfl
    have hf : spec_FormatInt.f k vs[i] = some (numB vs[i]) := fiS _ hv.1 hv.2 k (by omega)
    rw [spec_FormatFact.l0, if_pos (by omega), if_pos ha, if_pos ha', h2, hr, hf, List.drop_eq_getElem_cons (by omega), ffs, show wrap64 ((i : Int) + 1) = ((i + 1 : Nat) : Int) by rw [w64 (by omega) (by omega)]; omega]
    simp only [Option.bind_some]
    by_cases c : i = f2
    · rw [if_pos (by omega), if_pos (by omega), if_pos (by omega), if_pos (by rw [ByteArray.size_append]; omega), if_pos c]
      exact ih (i + 1) _ (by omega) (by rw [ByteArray.size_append, ByteArray.size_append]; omega) k (by omega)
    · rw [if_neg (by omega), if_pos (by omega), if_pos (by omega), if_neg c]
      exact ih (i + 1) _ (by omega) (by rw [ByteArray.size_append]; omega) k (by omega)
def bar (xs : List ByteArray) (f2 : Nat) : ByteArray := if (f2 : Int) < (xs.length : Int) then (⟨(Shelf.cat_ (xs.take f2)).toArray⟩ : ByteArray) ++ ((⟨#[124]⟩ : ByteArray) ++ (⟨(Shelf.cat_ (xs.drop f2)).toArray⟩ : ByteArray)) else (⟨(Shelf.cat_ (xs.take f2)).toArray⟩ : ByteArray)
theorem cat_sz : ∀ xs : List ByteArray, (∀ x ∈ xs, x.size ≤ 21) → (Shelf.cat_ xs).length ≤ 21 * xs.length
  | [], _ => by rw [Shelf.cat_]; simp
  | x :: xs, h => by
    have := cat_sz xs fun y hy => h y (List.mem_cons_of_mem _ hy)
    have hx := h x (List.mem_cons_self ..)
    have e : x.toList.length = x.size := by rw [tl_eq, Array.length_toList]; rfl
    rw [Shelf.cat_, List.length_append, List.length_cons, e]
    omega
theorem bar_sz (xs : List ByteArray) (f2 : Nat) (hn : xs.length ≤ 3) (h : ∀ x ∈ xs, x.size ≤ 21) : (bar xs f2).size ≤ 1000 := by
  have h1 := cat_sz xs h
  have h2 := Shelf.cat_len xs f2
  have l1 : (⟨#[124]⟩ : ByteArray).size = 1 := rfl
  unfold bar
  split
  · rw [ByteArray.size_append, ByteArray.size_append, sz_mk, l1, sz_mk]; omega
  · rw [sz_mk]; omega
theorem ffIl (l : List S28) (a : Int) (ha : 0 ≤ a) (ha' : a < (l.length : Int)) (f2 : Nat) (h2 : (rd_T28 l a).f2 = f2) (vs : List Int) (hn : vs.length ≤ 3) (hf : f2 ≤ vs.length) (hsz : (rd_T28 l a).f0.size ≤ 1048576) (hb : ∀ v ∈ vs, -9223372036854775808 ≤ v ∧ v ≤ 9223372036854775807) (d : Nat) : ∀ (i : Nat), i + d = vs.length → ∀ k, d < k → impl_FormatFact.l0 k l ((vs.take i).map numB) vs vs.length i a vs = some ((rd_T28 l a).f0 ++ bar (vs.map numB) f2) := by
  have hm : ∀ x ∈ vs.map numB, x.size ≤ 21 := by
    intro x hx
    obtain ⟨v, hv, rfl⟩ := List.mem_map.1 hx
    exact numB_sz v (hb v hv).1 (hb v hv).2
  have hml : (vs.map numB).length = vs.length := List.length_map ..
  induction d with
  | zero =>
    intro i hd k hk
    obtain ⟨k, rfl, hk⟩ := fuel hk
    have hc := cat_sz _ hm
    have hbz := bar_sz (vs.map numB) f2 (by omega) hm
    have hbr : impl_barred.f (vs.map numB) f2 = some (bar (vs.map numB) f2) := by
      unfold impl_barred.f bar
      rw [if_pos (by omega), if_pos (by omega), Int.toNat_natCast]
    rw [impl_FormatFact.l0, if_neg (by omega), if_pos ha, if_pos ha', h2, List.take_of_length_le (by omega), hbr, Option.bind_some, if_pos (by omega)]
  | succ d ih =>
    intro i hd k hk
    obtain ⟨k, rfl, hk⟩ := fuel hk
    have hv := hb vs[i] (List.getElem_mem _)
    have hr : rd vs (i : Int) = vs[i] := by unfold rd; rw [Int.toNat_natCast, getD_lt _ _ i (by omega)]
    have hfi : impl_FormatInt.f vs[i] = some (numB vs[i]) := fiI _ hv.1 hv.2
    rw [impl_FormatFact.l0, if_pos (by omega), if_pos (by omega), if_pos (by omega), hr, hfi, Option.bind_some, if_pos (by rw [List.length_map, List.length_take]; omega), show wrap64 ((i : Int) + 1) = ((i + 1 : Nat) : Int) by rw [w64 (by omega) (by omega)]; omega, show (vs.take i).map numB ++ [numB vs[i]] = (vs.take (i + 1)).map numB by rw [List.take_succ_eq_append_getElem (by omega), List.map_append]; rfl]
    exact ih (i + 1) (by omega) k (by omega)
theorem ba_app (s : ByteArray) (l m : List UInt8) : s ++ (⟨(l ++ m).toArray⟩ : ByteArray) = (s ++ (⟨l.toArray⟩ : ByteArray)) ++ (⟨m.toArray⟩ : ByteArray) := by
  apply ByteArray.ext
  apply Array.ext'
  simp [ByteArray.data_append]
theorem ba_num (s x : ByteArray) (l : List UInt8) : s ++ (⟨(x.toList ++ l).toArray⟩ : ByteArray) = (s ++ x) ++ (⟨l.toArray⟩ : ByteArray) := by
  rw [ba_app, tl_eq]
theorem ffs_past (f2 : Nat) : ∀ (vs : List Int) (i : Nat) (s : ByteArray), f2 < i → ffs f2 i vs s = s ++ (⟨(Shelf.cat_ (vs.map numB)).toArray⟩ : ByteArray)
  | [], i, s, _ => by
    rw [ffs, List.map_nil, Shelf.cat_]
    apply ByteArray.ext; apply Array.ext'; simp [ByteArray.data_append]
  | v :: vs, i, s, h => by rw [ffs, if_neg (by omega), ffs_past f2 vs (i + 1) _ (by omega), List.map_cons, Shelf.cat_, ba_num]
theorem ffs_bar : ∀ (vs : List Int) (i f2 : Nat) (s : ByteArray), i ≤ f2 → ffs f2 i vs s = s ++ bar (vs.map numB) (f2 - i)
  | [], i, f2, s, h => by
    rw [ffs, List.map_nil]
    unfold bar
    rw [if_neg (by simp), List.take_nil, Shelf.cat_]
    apply ByteArray.ext; apply Array.ext'; simp [ByteArray.data_append]
  | v :: vs, i, f2, s, h => by
    rw [ffs]
    by_cases c : i = f2
    · rw [if_pos c, ffs_past f2 vs (i + 1) _ (by omega), show f2 - i = 0 by omega]
      unfold bar
      rw [if_pos (by simp), List.take_zero, List.drop_zero, List.map_cons, Shelf.cat_, Shelf.cat_, tl_eq]
      apply ByteArray.ext; apply Array.ext'; simp [ByteArray.data_append]
    · rw [if_neg c, ffs_bar vs (i + 1) f2 _ (by omega), show f2 - i = (f2 - (i + 1)) + 1 by omega]
      unfold bar
      rw [List.map_cons, List.take_succ_cons, List.drop_succ_cons, List.length_cons, Shelf.cat_, tl_eq]
      by_cases q : ((f2 - (i + 1) : Nat) : Int) < ((vs.map numB).length : Int)
      · rw [if_pos q, if_pos (by push_cast; omega)]
        apply ByteArray.ext; apply Array.ext'; simp [ByteArray.data_append]
      · rw [if_neg q, if_neg (by push_cast; omega)]
        apply ByteArray.ext; apply Array.ext'; simp [ByteArray.data_append]
theorem ffB (l : List S28) (hl : l.length ≤ 1048576) (a : Int) (vs : List Int) (hs : vs.length ≤ 1048576) (hb : ∀ v ∈ vs, -9223372036854775808 ≤ v ∧ v ≤ 9223372036854775807) (k : Nat) (hk : 2000000 < k) : ∃ S, spec_FormatFact.f k l a vs = some S ∧ impl_FormatFact.f k l a vs = some S := by
  unfold spec_FormatFact.f impl_FormatFact.f
  rw [vFS l hl a vs hs k (by omega), vFI l hl a vs, Option.bind_some, Option.bind_some]
  by_cases h : vFact l a vs = true
  · have hv := h
    unfold vFact at hv
    rw [Bool.and_eq_true] at hv
    obtain ⟨h0, h1, h2, h3, h4, h5⟩ := key_ok l hv.1 a vs hv.2
    have hn := vRels_at l hv.1 a h0 h1
    have hsz : (rd_T28 l a).f0.size ≤ 1048576 := vRel_sz _ hn
    rw [if_pos h, if_pos h, if_pos h0, if_pos h1]
    have e1 := ffSl l a h0 h1 (rd_T28 l a).f2.toNat (by omega) vs h5 hb vs.length 0 (rd_T28 l a).f0 (by omega) (by omega) k (by omega)
    have e2 := ffIl l a h0 h1 (rd_T28 l a).f2.toNat (by omega) vs h5 (by omega) hsz hb vs.length 0 (by omega) k (by omega)
    rw [List.drop_zero, ffs_bar vs 0 _ _ (by omega), Nat.sub_zero] at e1
    exact ⟨_, e1, e2⟩
  · rw [if_neg h, if_neg h]
    exact ⟨_, rfl, rfl⟩

/-- The text of a fact: its relation's name, its values, a bar behind the key; the empty text where the fact is not valid. -/
def fTx (l : List S28) (a : Int) (vs : List Int) : ByteArray := if vFact l a vs = true then (rd_T28 l a).f0 ++ bar (vs.map numB) (rd_T28 l a).f2.toNat else (⟨#[]⟩ : ByteArray)
theorem fTx_sz (l : List S28) (a : Int) (vs : List Int) (hb : ∀ v ∈ vs, -9223372036854775808 ≤ v ∧ v ≤ 9223372036854775807) : (fTx l a vs).size ≤ 1049576 := by
  unfold fTx
  by_cases h : vFact l a vs = true
  · have hv := h
    unfold vFact at hv
    rw [Bool.and_eq_true] at hv
    obtain ⟨h0, h1, h2, h3, h4, h5⟩ := key_ok l hv.1 a vs hv.2
    have hsz : (rd_T28 l a).f0.size ≤ 1048576 := vRel_sz _ (vRels_at l hv.1 a h0 h1)
    have hm : ∀ x ∈ vs.map numB, x.size ≤ 21 := by
      intro x hx
      obtain ⟨v, hv, rfl⟩ := List.mem_map.1 hx
      exact numB_sz v (hb v hv).1 (hb v hv).2
    have hbz := bar_sz (vs.map numB) (rd_T28 l a).f2.toNat (by rw [List.length_map]; exact h5) hm
    rw [if_pos h, ByteArray.size_append]
    omega
  · rw [if_neg h]
    exact Nat.zero_le _
theorem ffB2 (l : List S28) (hl : l.length ≤ 1048576) (a : Int) (vs : List Int) (hs : vs.length ≤ 1048576) (hb : ∀ v ∈ vs, -9223372036854775808 ≤ v ∧ v ≤ 9223372036854775807) (k : Nat) (hk : 2000000 < k) : spec_FormatFact.f k l a vs = some (fTx l a vs) ∧ impl_FormatFact.f k l a vs = some (fTx l a vs) := by
  unfold spec_FormatFact.f impl_FormatFact.f fTx
  rw [vFS l hl a vs hs k (by omega), vFI l hl a vs, Option.bind_some, Option.bind_some]
  by_cases h : vFact l a vs = true
  · have hv := h
    unfold vFact at hv
    rw [Bool.and_eq_true] at hv
    obtain ⟨h0, h1, h2, h3, h4, h5⟩ := key_ok l hv.1 a vs hv.2
    have hn := vRels_at l hv.1 a h0 h1
    have hsz : (rd_T28 l a).f0.size ≤ 1048576 := vRel_sz _ hn
    rw [if_pos h, if_pos h, if_pos h0, if_pos h1, if_pos h]
    have e1 := ffSl l a h0 h1 (rd_T28 l a).f2.toNat (by omega) vs h5 hb vs.length 0 (rd_T28 l a).f0 (by omega) (by omega) k (by omega)
    have e2 := ffIl l a h0 h1 (rd_T28 l a).f2.toNat (by omega) vs h5 (by omega) hsz hb vs.length 0 (by omega) k (by omega)
    rw [List.drop_zero, ffs_bar vs 0 _ _ (by omega), Nat.sub_zero] at e1
    exact ⟨e1, e2⟩
  · rw [if_neg h, if_neg h, if_neg h]
    exact ⟨rfl, rfl⟩
theorem fTx_small (l : List S28) (a : Int) (vs : List Int) (hb : ∀ v ∈ vs, -9223372036854775808 ≤ v ∧ v ≤ 9223372036854775807) : (fTx l a vs).size ≤ 2000 := by
  unfold fTx
  by_cases h : vFact l a vs = true
  · have hv := h
    unfold vFact at hv
    rw [Bool.and_eq_true] at hv
    obtain ⟨h0, h1, h2, h3, h4, h5⟩ := key_ok l hv.1 a vs hv.2
    have hr := vRels_at l hv.1 a h0 h1
    unfold vRel at hr
    rw [Bool.and_eq_true, Bool.and_eq_true, decide_eq_true_iff] at hr
    have hs := hr.1.1.1
    have hm : ∀ x ∈ vs.map numB, x.size ≤ 21 := by
      intro x hx
      obtain ⟨v, hv, rfl⟩ := List.mem_map.1 hx
      exact numB_sz v (hb v hv).1 (hb v hv).2
    have hbz := bar_sz (vs.map numB) (rd_T28 l a).f2.toNat (by rw [List.length_map]; exact h5) hm
    rw [if_pos h, ByteArray.size_append]
    omega
  · rw [if_neg h]
    exact Nat.zero_le _

theorem relIdxSl (l : List S28) (nm : ByteArray) (hl : l.length ≤ 1048576) (d : Nat) : ∀ (i : Nat), i + d = l.length → ∀ k, d < k → spec_RelationIndex.l0 k l nm i = some (idxW (nameIs nm) (l.drop i) i) := by
  induction d with
  | zero =>
    intro i hd k hk
    obtain ⟨k, rfl, hk⟩ := fuel hk
    rw [spec_RelationIndex.l0, if_neg (by omega), List.drop_of_length_le (by omega)]
    rfl
  | succ d ih =>
    intro i hd k hk
    obtain ⟨k, rfl, hk⟩ := fuel hk
    have e1 : wrap64 ((i : Int) + 1) = ((i + 1 : Nat) : Int) := by rw [w64 (by omega) (by omega)]; omega
    have e2 : rd_T28 l (i : Int) = l[i] := by unfold rd_T28; rw [Int.toNat_natCast, getD_lt l _ i (by omega)]
    rw [spec_RelationIndex.l0, if_pos (by omega), if_pos (by omega), e2, e1, List.drop_eq_getElem_cons (by omega)]
    simp only [idxW, nameIs, beq_iff_eq]
    by_cases h : l[i].f0.toList = nm.toList
    · rw [if_pos h, if_pos h]
    · rw [if_neg h, if_neg h, ih (i + 1) (by omega) k (by omega)]
      rfl
theorem relIdxS (l : List S28) (nm : ByteArray) (hl : l.length ≤ 1048576) (k : Nat) (hk : l.length < k) : spec_RelationIndex.f k l nm = some (idxW (nameIs nm) l 0) :=
  relIdxSl l nm hl l.length 0 (by omega) k hk

/-! ### a valid relation's text is read back -/
theorem numB_dig (d : Nat) (h : d < 10) : numB (d : Int) = (⟨#[UInt8.ofNat (48 + d)]⟩ : ByteArray) := by
  unfold numB Lib.itoa
  rw [if_neg (by omega), Int.toNat_natCast, Lib.decDigits, dif_pos h]
theorem one_byte (s : ByteArray) (h : s.size = 1) : ∃ c, s = (⟨#[c]⟩ : ByteArray) := by
  obtain ⟨⟨l⟩⟩ := s
  have h' : l.length = 1 := h
  match l, h' with
  | [c], _ => exact ⟨c, rfl⟩
theorem vRel_shape (r : S28) (h : vRel r = true) : ∃ (c : UInt8) (d1 d2 : Nat), d1 < 10 ∧ d2 < 10 ∧ r = (⟨(⟨#[c]⟩ : ByteArray), (d1 : Int), (d2 : Int)⟩ : S28) := by
  unfold vRel at h
  rw [Bool.and_eq_true, Bool.and_eq_true, decide_eq_true_iff] at h
  unfold inB at h
  rw [decide_eq_true_iff, decide_eq_true_iff] at h
  obtain ⟨n, a, b⟩ := r
  dsimp only at h
  obtain ⟨⟨⟨h0, _⟩, h1⟩, h2⟩ := h
  obtain ⟨c, rfl⟩ := one_byte n (by omega)
  refine ⟨c, a.toNat, b.toNat, by omega, by omega, ?_⟩
  rw [Int.toNat_of_nonneg (by omega), Int.toNat_of_nonneg (by omega)]

/-! ### names rise, so a name is first found at its own place -/
theorem vRelsFrom_less (l : List S28) : ∀ (d i : Nat), vRelsFrom l d i = true → ∀ j, i ≤ j → j < i + d → j = 0 ∨ Op.bytesLess (l.getD (j - 1) z28).f0.toList (l.getD j z28).f0.toList = true
  | 0, i, _, j, h1, h2 => by omega
  | d + 1, i, h, j, h1, h2 => by
    rw [vRelsFrom, Bool.and_eq_true, Bool.and_eq_true, Bool.or_eq_true, decide_eq_true_iff] at h
    by_cases hj : j = i
    · subst hj
      exact h.1.2
    · exact vRelsFrom_less l d (i + 1) h.2 j (by omega) (by omega)
theorem vRelsFrom_len (l : List S28) : ∀ (d i : Nat), vRelsFrom l d i = true → (l.length : Int) ≤ 4
  | 0, i, h => by rw [vRelsFrom, decide_eq_true_iff] at h; exact h
  | d + 1, i, h => by
    rw [vRelsFrom, Bool.and_eq_true] at h
    exact vRelsFrom_len l d (i + 1) h.2
theorem one_toList (c : UInt8) : (⟨#[c]⟩ : ByteArray).toList = [c] := by rw [tl_eq]
theorem name_lt (l : List S28) (h : vRels l = true) (i : Nat) (hi : i < l.length) : ∀ j, j < i → bt (l.getD j z28).f0 0 < bt (l.getD i z28).f0 0 := by
  induction i with
  | zero => intro j hj; omega
  | succ i ih =>
    have v1 := vRelsFrom_at l l.length 0 h i (by omega) (by omega)
    have v2 := vRelsFrom_at l l.length 0 h (i + 1) (by omega) (by omega)
    have hs : bt (l.getD i z28).f0 0 < bt (l.getD (i + 1) z28).f0 0 := by
      rcases vRelsFrom_less l l.length 0 h (i + 1) (by omega) (by omega) with q | q
      · omega
      · rw [show i + 1 - 1 = i from rfl] at q
        obtain ⟨c1, _, _, _, _, e1⟩ := vRel_shape _ v1
        obtain ⟨c2, _, _, _, _, e2⟩ := vRel_shape _ v2
        rw [e1, e2] at q ⊢
        simp only [one_toList, Op.bytesLess, Bool.and_false, Bool.or_false, decide_eq_true_iff] at q
        show ((c1.toNat : Nat) : Int) < ((c2.toNat : Nat) : Int)
        have := UInt8.lt_iff_toNat_lt.1 q
        omega
    intro j hj
    by_cases c : j = i
    · rw [c]; exact hs
    · have := ih (by omega) j (by omega)
      omega
theorem idxOwn (l : List S28) (h : vRels l = true) (i : Nat) (hi : i < l.length) : impl_RelationIndex.f l (rd_T28 l (i : Int)).f0 = some (i : Int) := by
  unfold impl_RelationIndex.f rd_T28
  rw [Int.toNat_natCast, idxW_hit (nameIs (l.getD i z28).f0) z28 l i 0 hi ?_ ?_]
  · simp
  · intro j hj
    unfold nameIs
    rw [Bool.eq_false_iff, ne_eq, beq_iff_eq, tl_inj]
    intro e
    have := name_lt l h i hi j hj
    rw [e] at this
    omega
  · unfold nameIs
    simp

theorem bt_app (a b : ByteArray) (i : Nat) (h : i < a.size) : bt (a ++ b) i = bt a i := by
  unfold bt
  rw [Int.toNat_natCast, dif_pos (by rw [ByteArray.size_append]; omega), dif_pos h]
  have h' : i < a.data.size := h
  have h2 : i < (a ++ b).data.size := by rw [ByteArray.data_append, Array.size_append]; omega
  have e : (a ++ b).data[i] = a.data[i] := by simp only [ByteArray.data_append, Array.getElem_append_left h']
  exact congrArg (fun c : UInt8 => ((c.toNat : Nat) : Int)) e

/-! ### a valid fact's text is read back -/
/-- What the reader keeps of the bytes from place i on: all but the bar. -/
def digs : List UInt8 → List Int
  | [] => []
  | b :: r => if b.toNat = 124 then digs r else wrap64 ((wrap64 ((b.toNat : Nat) : Int)) - 48) :: digs r
theorem digs_app : ∀ a b : List UInt8, digs (a ++ b) = digs a ++ digs b
  | [], b => rfl
  | x :: a, b => by
    rw [List.cons_append, digs, digs, digs_app a b]
    split
    · rfl
    · rfl
theorem digs_len : ∀ a : List UInt8, (digs a).length ≤ a.length
  | [] => Nat.le_refl _
  | x :: a => by
    have := digs_len a
    rw [digs]
    split
    · simp only [List.length_cons]; omega
    · simp only [List.length_cons]; omega
theorem wb (x : Int) : -9223372036854775808 ≤ wrap64 x ∧ wrap64 x ≤ 9223372036854775807 := by unfold wrap64; omega
theorem digs_b : ∀ a : List UInt8, ∀ v ∈ digs a, -9223372036854775808 ≤ v ∧ v ≤ 9223372036854775807
  | [], v, h => by cases h
  | x :: a, v, h => by
    rw [digs] at h
    split at h
    · exact digs_b a v h
    · rcases List.mem_cons.1 h with rfl | h
      · exact wb _
      · exact digs_b a v h
theorem bt_tl (s : ByteArray) (i : Nat) (h : i < s.size) : ∃ b, s.toList.drop i = b :: s.toList.drop (i + 1) ∧ bt s i = ((b.toNat : Nat) : Int) := by
  have h' : i < s.toList.length := by rw [tl_eq, Array.length_toList]; exact h
  refine ⟨s.toList[i], List.drop_eq_getElem_cons h', ?_⟩
  unfold bt
  rw [Int.toNat_natCast, dif_pos h]
  have : s[i] = s.toList[i] := by
    simp only [tl_eq]
    rfl
  rw [this]
/-- What a text is read as: the relation and the values, or nothing. -/
def pFx (l : List S28) (t : ByteArray) : Int × List Int × Bool :=
  if t.toList = ([] : List UInt8) then (0, [], false)
  else if fTx l (idxW (nameIs (t.extract 0 1)) l 0) (digs (t.toList.drop 1)) = t then (idxW (nameIs (t.extract 0 1)) l 0, digs (t.toList.drop 1), true) else (0, [], false)
theorem pfSl (l : List S28) (hl : l.length ≤ 1048576) (t : ByteArray) (ht : t.size ≤ 1048576) (a : Int) (d : Nat) : ∀ (i : Nat) (vs : List Int), i + d = t.size → vs.length ≤ i → (∀ v ∈ vs, -9223372036854775808 ≤ v ∧ v ≤ 9223372036854775807) → ∀ k, 2000100 + d < k → spec_ParseFact.l0 k l t i a vs = some (if fTx l a (vs ++ digs (t.toList.drop i)) = t then (a, vs ++ digs (t.toList.drop i), true) else (0, [], false)) ∧ impl_ParseFact.l0 k l t i a vs = some (if fTx l a (vs ++ digs (t.toList.drop i)) = t then (a, vs ++ digs (t.toList.drop i), true) else (0, [], false)) := by
  have hlen : t.toList.length = t.size := by rw [tl_eq, Array.length_toList]; rfl
  induction d with
  | zero =>
    intro i vs hd hv hb k hk
    obtain ⟨k, rfl, hk⟩ := fuel hk
    obtain ⟨f1, f2⟩ := ffB2 l hl a vs (by omega) hb k (by omega)
    rw [List.drop_eq_nil_of_le (by omega), digs, List.append_nil]
    refine ⟨?_, ?_⟩
    · rw [spec_ParseFact.l0, if_neg (by omega), f1, Option.bind_some]
      by_cases c : fTx l a vs = t
      · rw [if_pos c, if_pos (tl_inj.2 c)]
      · rw [if_neg c, if_neg (fun g => c (tl_inj.1 g))]
    · rw [impl_ParseFact.l0, if_neg (by omega), f2, Option.bind_some]
      by_cases c : fTx l a vs = t
      · rw [if_pos c, if_pos (tl_inj.2 c)]
      · rw [if_neg c, if_neg (fun g => c (tl_inj.1 g))]
  | succ d ih =>
    intro i vs hd hv hb k hk
    obtain ⟨k, rfl, hk⟩ := fuel hk
    obtain ⟨b, hb1, hb2⟩ := bt_tl t i (by omega)
    have e1 : wrap64 ((i : Int) + 1) = ((i + 1 : Nat) : Int) := by rw [w64 (by omega) (by omega)]; omega
    have hn : ∀ v ∈ vs ++ [wrap64 ((wrap64 ((b.toNat : Nat) : Int)) - 48)], -9223372036854775808 ≤ v ∧ v ≤ 9223372036854775807 := fun v h => by
      rcases List.mem_append.1 h with h | h
      · exact hb v h
      · rw [List.mem_singleton] at h
        subst h
        exact wb _
    rw [hb1, digs]
    by_cases c : b.toNat = 124
    · have st := ih (i + 1) vs (by omega) (by omega) hb k (by omega)
      rw [if_pos c]
      refine ⟨?_, ?_⟩
      · rw [spec_ParseFact.l0, if_pos (by omega), if_pos (by omega), hb2, e1, if_pos (by omega)]
        exact st.1
      · rw [impl_ParseFact.l0, if_pos (by omega), if_pos (by omega), hb2, e1, if_pos (by omega)]
        exact st.2
    · have st := ih (i + 1) (vs ++ [wrap64 ((wrap64 ((b.toNat : Nat) : Int)) - 48)]) (by omega) (by simp only [List.length_append, List.length_singleton]; omega) hn k (by omega)
      rw [List.append_assoc, List.singleton_append] at st
      rw [if_neg c]
      refine ⟨?_, ?_⟩
      · rw [spec_ParseFact.l0, if_pos (by omega), if_pos (by omega), hb2, e1, if_neg (by omega), if_pos (by omega)]
        exact st.1
      · rw [impl_ParseFact.l0, if_pos (by omega), if_pos (by omega), hb2, e1, if_neg (by omega), if_pos (by omega)]
        exact st.2
theorem pfB (l : List S28) (hl : l.length ≤ 1048576) (t : ByteArray) (ht : t.size ≤ 1048576) (k : Nat) (hk : 4000000 < k) : spec_ParseFact.f k l t = some (pFx l t) ∧ impl_ParseFact.f k l t = some (pFx l t) := by
  unfold spec_ParseFact.f impl_ParseFact.f pFx
  by_cases c : t.toList = ([] : List UInt8)
  · rw [if_pos c, if_pos c, if_pos c]
    exact ⟨rfl, rfl⟩
  · have hs : 0 < t.size := by
      rcases Nat.eq_zero_or_pos t.size with h | h
      · exfalso
        apply c
        apply List.eq_nil_of_length_eq_zero
        rw [tl_eq, Array.length_toList]
        exact h
      · exact h
    obtain ⟨p1, p2⟩ := pfSl l hl t ht (idxW (nameIs (t.extract 0 1)) l 0) (t.size - 1) 1 [] (by omega) (by simp) (fun v h => by cases h) k (by omega)
    rw [List.nil_append] at p1 p2
    rw [if_neg c, if_neg c, if_neg c]
    refine ⟨?_, ?_⟩
    · rw [if_pos (show (0 : Nat) ≤ 1 by decide), if_pos (show (1 : Int) ≤ (t.size : Int) by omega), relIdxS l (t.extract 0 1) hl k (by omega), Option.bind_some]
      exact p1
    · unfold impl_RelationIndex.f
      rw [if_pos (show (0 : Nat) ≤ 1 by decide), if_pos (show (1 : Int) ≤ (t.size : Int) by omega), Option.bind_some]
      exact p2
theorem digs_cat : ∀ vs : List Int, (∀ v ∈ vs, 0 ≤ v ∧ v ≤ 9) → digs (Shelf.cat_ (vs.map numB)) = vs
  | [], _ => rfl
  | v :: vs, h => by
    have hv := h v (List.mem_cons_self ..)
    obtain ⟨d, rfl⟩ := Int.eq_ofNat_of_zero_le hv.1
    have u : (UInt8.ofNat (48 + d)).toNat = 48 + d := by rw [UInt8.toNat_ofNat']; omega
    rw [List.map_cons, Shelf.cat_, digs_app, digs_cat vs (fun z hz => h z (List.mem_cons_of_mem _ hz)), numB_dig d (by omega), one_toList, digs, if_neg (by omega), u, digs, w64 (n := ((48 + d : Nat) : Int)) (by omega) (by omega), w64 (by omega) (by omega)]
    rw [show ((48 + d : Nat) : Int) - 48 = (d : Int) by omega]
    rfl
theorem digs_bar (vs : List Int) (h : ∀ v ∈ vs, 0 ≤ v ∧ v ≤ 9) (f : Nat) (hf : f ≤ vs.length) : digs (bar (vs.map numB) f).toList = vs := by
  have ht := digs_cat (vs.take f) (fun v hv => h v (List.mem_of_mem_take hv))
  have hd := digs_cat (vs.drop f) (fun v hv => h v (List.mem_of_mem_drop hv))
  rw [List.map_take] at ht
  rw [List.map_drop] at hd
  unfold bar
  by_cases c : (f : Int) < ((vs.map numB).length : Int)
  · rw [if_pos c]
    have e : ((⟨(Shelf.cat_ ((vs.map numB).take f)).toArray⟩ : ByteArray) ++ ((⟨#[124]⟩ : ByteArray) ++ (⟨(Shelf.cat_ ((vs.map numB).drop f)).toArray⟩ : ByteArray))).toList = Shelf.cat_ ((vs.map numB).take f) ++ ([124] ++ Shelf.cat_ ((vs.map numB).drop f)) := by
      rw [tl_eq]; simp [ByteArray.data_append]
    rw [e, digs_app, digs_app, ht, hd, show digs [124] = [] from rfl, List.nil_append, List.take_append_drop]
  · rw [if_neg c, tl_eq]
    rw [List.length_map] at c
    rw [show (⟨(Shelf.cat_ ((vs.map numB).take f)).toArray⟩ : ByteArray).data.toList = Shelf.cat_ ((vs.map numB).take f) by simp, ht, List.take_of_length_le (by omega)]
theorem val_b (l : List S28) (a : Int) (vs : List Int) (h : fits l a vs = true) : ∀ v ∈ vs, 0 ≤ v ∧ v ≤ 9 := by
  intro v hv
  have hn := ((fits_iff l a vs).1 h).2
  rw [List.any_eq_false] at hn
  have hz := hn v hv
  unfold noVal at hz
  have h3 : (decide (0 ≤ v) && decide (v ≤ 9)) = true := by
    cases hq : (decide (0 ≤ v) && decide (v ≤ 9)) with
    | true => rfl
    | false => exact absurd (by rw [hq]; rfl) hz
  rw [Bool.and_eq_true, decide_eq_true_iff, decide_eq_true_iff] at h3
  exact h3
theorem pFx_valid (l : List S28) (a : Int) (vs : List Int) (h : vFact l a vs = true) : pFx l (fTx l a vs) = (a, vs, true) := by
  have hv := h
  unfold vFact at hv
  rw [Bool.and_eq_true] at hv
  obtain ⟨h0, h1, h2, h3, h4, h5⟩ := key_ok l hv.1 a vs hv.2
  obtain ⟨c, d1, d2, _, _, er⟩ := vRel_shape _ (vRels_at l hv.1 a h0 h1)
  have e0 : (rd_T28 l a).f0 = (⟨#[c]⟩ : ByteArray) := by rw [er]
  have ha : ((a.toNat : Nat) : Int) = a := Int.toNat_of_nonneg h0
  have hi := idxOwn l hv.1 a.toNat (by omega)
  rw [ha] at hi
  unfold impl_RelationIndex.f at hi
  have hi' := Option.some.inj hi
  rw [e0] at hi'
  have et : fTx l a vs = (⟨#[c]⟩ : ByteArray) ++ bar (vs.map numB) (rd_T28 l a).f2.toNat := by unfold fTx; rw [if_pos h, e0]
  have el : (fTx l a vs).toList = c :: (bar (vs.map numB) (rd_T28 l a).f2.toNat).toList := by
    rw [et, tl_eq, tl_eq]; simp [ByteArray.data_append]
  have ex : (fTx l a vs).extract 0 1 = (⟨#[c]⟩ : ByteArray) := by
    rw [et]
    have hz : ((⟨#[c]⟩ : ByteArray) ++ bar (vs.map numB) (rd_T28 l a).f2.toNat).size ≥ 1 := by rw [ByteArray.size_append, show (⟨#[c]⟩ : ByteArray).size = 1 from rfl]; omega
    refine ba_ext (by rw [ex_size _ 1 hz]; rfl) fun i hi => ?_
    rw [ex_size _ 1 hz] at hi
    rw [ex_bt _ 1 i hz hi, bt_app _ _ i (by rw [show (⟨#[c]⟩ : ByteArray).size = 1 from rfl]; omega)]
  have hb := digs_bar vs (val_b l a vs hv.2) (rd_T28 l a).f2.toNat (by omega)
  unfold pFx
  rw [if_neg (by rw [el]; simp), ex, hi', el, List.drop_succ_cons, List.drop_zero, hb, if_pos rfl]
theorem pFx_nil (l : List S28) : pFx l (⟨#[]⟩ : ByteArray) = (0, [], false) := by
  unfold pFx
  rw [if_pos (by rw [tl_eq])]
theorem pFx_told (l : List S28) (t : ByteArray) : (pFx l t).2.2 = true → fTx l (pFx l t).1 (pFx l t).2.1 = t := by
  unfold pFx
  by_cases c : t.toList = ([] : List UInt8)
  · rw [if_pos c]; intro h; exact absurd h (by decide)
  · rw [if_neg c]
    by_cases g : fTx l (idxW (nameIs (t.extract 0 1)) l 0) (digs (t.toList.drop 1)) = t
    · rw [if_pos g]; intro _; exact g
    · rw [if_neg g]; intro h; exact absurd h (by decide)
theorem pFx_b (l : List S28) (t : ByteArray) : (∀ v ∈ (pFx l t).2.1, -9223372036854775808 ≤ v ∧ v ≤ 9223372036854775807) ∧ (pFx l t).2.1.length ≤ t.size := by
  have hlen : t.toList.length = t.size := by rw [tl_eq, Array.length_toList]; rfl
  unfold pFx
  split
  · exact ⟨fun v h => (by cases h), Nat.zero_le _⟩
  · split
    · refine ⟨digs_b _, ?_⟩
      have := digs_len (t.toList.drop 1)
      rw [List.length_drop] at this
      show (digs (t.toList.drop 1)).length ≤ t.size
      omega
    · exact ⟨fun v h => (by cases h), Nat.zero_le _⟩

/-! ### marks: what the laws write into results, and read again -/
def cnt : Int → Nat → List Int
  | _, 0 => []
  | a, d + 1 => a :: cnt (a + 1) d
theorem cnt_len : ∀ (a : Int) (d : Nat), (cnt a d).length = d
  | _, 0 => rfl
  | a, d + 1 => by rw [cnt, List.length_cons, cnt_len]
theorem markIl (n : Nat) (hn : n ≤ 1048576) (d : Nat) : ∀ (i : Nat) (xs : List Int) (a : Int), xs.length = n → i + d = n → 0 ≤ a → a + (d : Int) ≤ 4000000000000000000 → ∀ k, d < k → laws_markIntS.l0 k xs a i = some (a + d, xs.take i ++ cnt a d) := by
  induction d with
  | zero =>
    intro i xs a hx hd _ _ k hk
    obtain ⟨k, rfl, hk⟩ := fuel hk
    rw [laws_markIntS.l0, if_neg (by omega), List.take_of_length_le (by omega), cnt, List.append_nil]
    simp
  | succ d ih =>
    intro i xs a hx hd h0 h1 k hk
    obtain ⟨k, rfl, hk⟩ := fuel hk
    rw [laws_markIntS.l0, if_pos (by omega), if_pos (by omega), Int.toNat_natCast, w64 (by omega) (by omega), show wrap64 ((i : Int) + 1) = ((i + 1 : Nat) : Int) by rw [w64 (by omega) (by omega)]; omega, ih (i + 1) (xs.set i a) (a + 1) (by simpa using hx) (by omega) (by omega) (by omega) k (by omega), take_set_succ xs i a (by omega), cnt, List.append_assoc]
    congr 2
    omega
theorem markI (xs : List Int) (hn : xs.length ≤ 1048576) (a : Int) (h0 : 0 ≤ a) (h1 : a ≤ 1000000000000000000) (k : Nat) (hk : xs.length < k) : laws_markIntS.f k xs a = some (a + xs.length, cnt a xs.length) := by
  unfold laws_markIntS.f
  exact markIl xs.length hn xs.length 0 xs a rfl (by omega) h0 (by omega) k hk
theorem heldIl (a0 : Int) (n : Nat) (h0 : 0 ≤ a0) (h1 : a0 ≤ 1000000000000000000) (hn : n ≤ 1048576) (d : Nat) : ∀ (i : Nat), i + d = n → (cnt a0 n).drop i = cnt (a0 + i) d → ∀ k, d < k → laws_heldIntS.l0 k (cnt a0 n) (a0 + i) i = some (a0 + n) := by
  have hl := cnt_len a0 n
  induction d with
  | zero =>
    intro i hd _ k hk
    obtain ⟨k, rfl, hk⟩ := fuel hk
    rw [laws_heldIntS.l0, if_neg (by omega), show i = n by omega]
  | succ d ih =>
    intro i hd hc k hk
    obtain ⟨k, rfl, hk⟩ := fuel hk
    rw [cnt, List.drop_eq_getElem_cons (by omega)] at hc
    obtain ⟨c1, c2⟩ := List.cons.inj hc
    have hr : rd (cnt a0 n) (i : Int) = a0 + i := by unfold rd; rw [Int.toNat_natCast, getD_lt _ _ i (by omega)]; exact c1
    rw [laws_heldIntS.l0, if_pos (by omega), if_pos (by omega), if_pos hr, show wrap64 ((i : Int) + 1) = ((i + 1 : Nat) : Int) by rw [w64 (by omega) (by omega)]; omega, show wrap64 (a0 + (i : Int) + 1) = a0 + ((i + 1 : Nat) : Int) by rw [w64 (by omega) (by omega)]; omega]
    refine ih (i + 1) (by omega) ?_ k (by omega)
    rw [c2]
    congr 1
    omega
theorem heldI (n : Nat) (a0 : Int) (h0 : 0 ≤ a0) (h1 : a0 ≤ 1000000000000000000) (hn : n ≤ 1048576) (k : Nat) (hk : n < k) : laws_heldIntS.f k (cnt a0 n) a0 = some (a0 + n) := by
  unfold laws_heldIntS.f
  have := heldIl a0 n h0 h1 hn n 0 (by omega) (by simp) k hk
  simpa using this
theorem textl (d : Nat) : ∀ (x : Int) (s : ByteArray), 0 ≤ x → x < 10 ^ d → x ≤ 4000000000 → s.size + d ≤ 1000 → ∀ k, d < k → ∃ t, laws_markText.l0 k x s = some t := by
  induction d with
  | zero =>
    intro x s h0 h1 _ hs k hk
    rw [Int.pow_zero] at h1
    obtain ⟨k, rfl, hk⟩ := fuel hk
    rw [laws_markText.l0, if_neg (by omega), if_pos (by omega)]
    exact ⟨_, rfl⟩
  | succ d ih =>
    intro x s h0 h1 h2 hs k hk
    obtain ⟨k, rfl, hk⟩ := fuel hk
    by_cases hx : x > 0
    · have hz : ∀ z : Int, (strOfNums [z]).size = 1 := fun z => by rw [sn_size]; rfl
      rw [laws_markText.l0, if_pos hx, Option.bind_some, if_pos (by rw [hz]; omega), td h0, w64 (n := x / 10) (by omega) (by omega)]
      exact ih (x / 10) _ (by omega) (by rw [Int.pow_succ] at h1; omega) (by omega) (by rw [ByteArray.size_append, hz]; omega) k (by omega)
    · rw [laws_markText.l0, if_neg hx, if_pos (by omega)]
      exact ⟨_, rfl⟩
theorem markT (x : Int) (h0 : 0 ≤ x) (h1 : x ≤ 1000000000) (k : Nat) (hk : 20 < k) : ∃ t, laws_markText.f k x = some t := by
  unfold laws_markText.f
  by_cases h : x ≤ 0
  · exact ⟨_, if_pos h⟩
  · rw [if_neg h]
    have hp : (10 : Int) ^ 10 = 10000000000 := by decide
    exact textl 10 x ⟨#[]⟩ h0 (by omega) (by omega) (by decide) k (by omega)
theorem markRl (n : Nat) (hn : n ≤ 1048576) (d : Nat) : ∀ (i : Nat) (xs : List S28) (a : Int), xs.length = n → i + d = n → 0 ≤ a → a + 3 * (d : Int) ≤ 1000000000 → ∀ k, d + 21 < k → ∃ ys : List S28, laws_markRelationS.l0 k xs a i = some (a + 3 * d, ys) := by
  induction d with
  | zero =>
    intro i xs a hx hd _ _ k hk
    obtain ⟨k, rfl, hk⟩ := fuel hk
    rw [laws_markRelationS.l0, if_neg (by omega)]
    exact ⟨xs, by simp⟩
  | succ d ih =>
    intro i xs a hx hd h0 h1 k hk
    obtain ⟨k, rfl, hk⟩ := fuel hk
    obtain ⟨t, ht⟩ := markT a h0 (by omega) k (by omega)
    rw [laws_markRelationS.l0, if_pos (by omega), ht, Option.bind_some, if_pos (by omega), Option.bind_some, Option.bind_some, w64 (n := a + 1) (by omega) (by omega), w64 (n := a + 1 + 1) (by omega) (by omega), w64 (n := a + 1 + 1 + 1) (by omega) (by omega), show wrap64 ((i : Int) + 1) = ((i + 1 : Nat) : Int) by rw [w64 (by omega) (by omega)]; omega, show a + 3 * ((d + 1 : Nat) : Int) = a + 1 + 1 + 1 + 3 * (d : Int) by omega]
    exact ih (i + 1) _ (a + 1 + 1 + 1) (by simpa using hx) (by omega) (by omega) (by omega) k (by omega)
theorem markR (xs : List S28) (hn : xs.length ≤ 1048576) (a : Int) (h0 : 0 ≤ a) (h1 : a ≤ 100000000) (k : Nat) (hk : xs.length + 21 < k) : ∃ ys : List S28, laws_markRelationS.f k xs a = some (a + 3 * xs.length, ys) := by
  unfold laws_markRelationS.f
  exact markRl xs.length hn xs.length 0 xs a rfl (by omega) h0 (by omega) k hk


theorem FnExactParseFact : FnExactParseFactPure := by
  intro l t hl ht
  by_cases hn : (t.size : Int) > 1048576
  · refine ⟨0, ?_⟩
    unfold laws_FnExactParseFact.f
    rw [if_pos hn]
  obtain ⟨r, h1, h2, h3, h4⟩ := szRS l hl.1 (fun y hy => (hl.2 y hy).1) 1048576 (by omega) (by omega)
  by_cases hr : r < 0
  · refine ⟨l.length + 1, ?_⟩
    unfold laws_FnExactParseFact.f
    rw [if_neg hn, h4 _ (by omega), Option.bind_some, if_pos hr]
  have hl' : l.length ≤ 1048576 := by have := h3 (by omega); omega
  have hm : (l.map cvR).length = l.length := by simp
  refine ⟨5000001, ?_⟩
  generalize hk : (5000001 : Nat) = k
  have hto : ∀ q, 2000000 < q → laws_toRelationS.f q l = some (l.map cvR) := fun q hq => toRS l hl' q (by omega)
  have hpf : ∀ q, 4000000 < q → spec_ParseFact.f q (l.map cvR) t = some (pFx (l.map cvR) t) ∧ impl_ParseFact.f q (l.map cvR) t = some (pFx (l.map cvR) t) := fun q hq => pfB (l.map cvR) (by omega) t (by omega) q hq
  have hlen := (pFx_b (l.map cvR) t).2
  generalize pFx (l.map cvR) t = R at hpf hlen
  obtain ⟨a, vs, v⟩ := R
  dsimp only at hlen
  have heq : ∀ q, 2000000 < q → laws_eqFact.f q a vs a vs = some true := fun q hq => eqF a vs (by omega) q (by omega)
  unfold laws_FnExactParseFact.f
  rw [if_neg hn, h4 _ (by omega), Option.bind_some, if_neg hr, hto k (by omega), Option.bind_some, (hpf k (by omega)).1, Option.bind_some, Option.bind_some, (hpf k (by omega)).2, Option.bind_some]
  dsimp only
  rw [heq k (by omega), Option.bind_some, if_pos rfl, show (v != v) = false by simp]
  obtain ⟨k, rfl⟩ : ∃ z, k = z + 1 := ⟨k - 1, by omega⟩
  obtain ⟨ys, hy⟩ := markR (l.map cvR) (by omega) 1 (by omega) (by omega) k (by omega)
  rw [laws_FnExactParseFact.j0, if_neg (by decide), hto k (by omega), Option.bind_some, eqRS (l.map cvR) (by omega) k (by omega), Option.bind_some, if_pos rfl, hy, Option.bind_some]
  dsimp only
  rw [if_neg (by omega), heq k (by omega), Option.bind_some, if_pos rfl, show (v != v) = false by simp]
  obtain ⟨k, rfl⟩ : ∃ z, k = z + 1 := ⟨k - 1, by omega⟩
  have hmk : laws_markFact.f k a vs 1 = some (1 + (vs.length : Int), cnt 1 vs.length) := by
    unfold laws_markFact.f
    rw [markI vs (by omega) 1 (by omega) (by omega) k (by omega), Option.bind_some]
  have hh : ∀ q, 2000000 < q → laws_heldFact.f q a (cnt 1 vs.length) 1 = some (1 + (vs.length : Int)) := fun q hq => by
    unfold laws_heldFact.f
    rw [heldI vs.length 1 (by omega) (by omega) (by omega) q (by omega), Option.bind_some, if_neg (by omega)]
  rw [laws_FnExactParseFact.j1, if_neg (by decide), hmk, Option.bind_some]
  dsimp only
  rw [hh k (by omega), Option.bind_some, if_neg (by omega), if_pos rfl, hto k (by omega), Option.bind_some, (hpf k (by omega)).2, Option.bind_some]
  dsimp only
  rw [heq k (by omega), Option.bind_some, if_pos rfl, show (v != v) = false by simp]
  obtain ⟨k, rfl⟩ : ∃ z, k = z + 1 := ⟨k - 1, by omega⟩
  rw [laws_FnExactParseFact.j2, if_neg (by decide), hh k (by omega), Option.bind_some, if_neg (by omega), if_pos rfl]

end Go.Proofs.YtdpaopfghggiaaaDoor.Pure
