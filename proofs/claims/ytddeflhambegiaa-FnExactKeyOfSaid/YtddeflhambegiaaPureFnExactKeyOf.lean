/- The law FnExactKeyOf answers true for every relations and fact that the row admits: both texts answer alike, the arguments are left as they were, and the results are memory of their own. -/
import Derived.Test.YtddeflhambegiaaGFnExactKeyOf
import Derived.Test.YtddeflhambegiaaBase
namespace Go.Proofs.Ytddeflhambegiaa.Pure
open Go.RowKit Go.Proofs.Ytddeflhambegiaa.PAll Go.Proofs.YtddeflhambegiaaW.PrintWords Go.Proofs.YtddeflhambegiaaW.PrintLast Go.Proofs.YtddeflhambegiaaW.PrintMore Go.Proofs.Ytddeflhambegiaa.Base
set_option linter.unusedVariables false
set_option linter.unusedSimpArgs false

/-! ### relations: what the laws' own functions on them come to -/
def cvR (x : S78) : S81 := ⟨x.f0, x.f1, x.f2⟩

theorem szR (n a b v : _) (hn : n.size ≤ maxLen) (hv : 0 ≤ v) (hv1 : v ≤ 1048576) : ∃ r, laws_szRelation.f n a b v = some r ∧ r ≤ v ∧ -1 ≤ r ∧ (0 ≤ r → (n.size : Int) ≤ v) := by
  unfold maxLen at hn
  unfold laws_szRelation.f
  rw [w64 (by omega) (by omega)]
  by_cases h : v - (n.size : Int) < 0
  · exact ⟨-1, if_pos h, by omega, by omega, fun h => absurd h (by decide)⟩
  · exact ⟨_, if_neg h, by omega, by omega, fun _ => by omega⟩

theorem szRSl (l : List S78) (hl : l.length ≤ maxLen) (hg : ∀ y ∈ l, y.f0.size ≤ maxLen) (d : Nat) : ∀ (i v : Int), 0 ≤ i → (l.length : Int) - i = d → 0 ≤ v → v ≤ 1048576 → ∃ r, r ≤ v ∧ -1 ≤ r ∧ ∀ k, d < k → laws_szRelationS.l0 k l v i = some r := by
  unfold maxLen at hl
  induction d with
  | zero =>
    intro i v h0 hd hv _
    refine ⟨v, by omega, by omega, fun k hk => ?_⟩
    obtain ⟨k, rfl, hk⟩ := fuel hk
    rw [laws_szRelationS.l0, if_neg (by omega)]
  | succ d ih =>
    intro i v h0 hd hv hv1
    obtain ⟨r, hr, h1, h2, _⟩ := szR (rd_T78 l i).f0 (rd_T78 l i).f1 (rd_T78 l i).f2 v (hg _ (getD_mem l _ _ (by omega))) hv hv1
    by_cases hneg : r < 0
    · refine ⟨-1, by omega, by omega, fun k hk => ?_⟩
      obtain ⟨k, rfl, hk⟩ := fuel hk
      rw [laws_szRelationS.l0, if_pos (by omega), if_pos h0, hr]
      simp only [Option.bind_some]
      rw [if_pos hneg]
    · obtain ⟨r', h3, h4, h5⟩ := ih (i + 1) r (by omega) (by omega) (by omega) (by omega)
      refine ⟨r', by omega, h4, fun k hk => ?_⟩
      obtain ⟨k, rfl, hk⟩ := fuel hk
      rw [laws_szRelationS.l0, if_pos (by omega), if_pos h0, hr]
      simp only [Option.bind_some]
      rw [if_neg hneg, w64 (by omega) (by omega)]
      exact h5 k (by omega)

theorem szRS (l : List S78) (hl : l.length ≤ maxLen) (hg : ∀ y ∈ l, y.f0.size ≤ maxLen) (v : Int) (hv : 0 ≤ v) (hv1 : v ≤ 1048576) : ∃ r, r ≤ v ∧ -1 ≤ r ∧ (0 ≤ r → (l.length : Int) ≤ v) ∧ ∀ k, l.length < k → laws_szRelationS.f k l v = some r := by
  have hl' := hl
  unfold maxLen at hl'
  unfold laws_szRelationS.f
  rw [w64 (by omega) (by omega)]
  by_cases h : v - (l.length : Int) < 0
  · exact ⟨-1, by omega, by omega, fun h => absurd h (by decide), fun k _ => if_pos h⟩
  · obtain ⟨r, h1, h2, h3⟩ := szRSl l hl hg l.length 0 (v - l.length) (by omega) (by omega) (by omega) (by omega)
    exact ⟨r, by omega, h2, fun _ => by omega, fun k hk => by rw [if_neg h]; exact h3 k hk⟩

theorem toRSl (l : List S78) (hl : l.length ≤ 1048576) (d : Nat) : ∀ (i : Nat) (xs : List S81), (l.length : Int) - i = d → xs.length = l.length → xs.take i = (l.take i).map cvR → ∀ k, d < k → laws_toRelationS.l0 k l xs i = some (l.map cvR) := by
  induction d with
  | zero =>
    intro i xs hd hx ht k hk
    obtain ⟨k, rfl, hk⟩ := fuel hk
    rw [laws_toRelationS.l0, if_neg (by omega)]
    rw [List.take_of_length_le (by omega), List.take_of_length_le (by omega)] at ht
    rw [ht]
  | succ d ih =>
    intro i xs hd hx ht k hk
    obtain ⟨k, rfl, hk⟩ := fuel hk
    rw [laws_toRelationS.l0, if_pos (by omega), if_pos (by omega), laws_toRelation.f]
    simp only [Option.bind_some]
    rw [if_pos (by omega), show wrap64 ((i : Int) + 1) = ((i + 1 : Nat) : Int) by rw [w64 (by omega) (by omega)]; omega]
    refine ih (i + 1) _ (by omega) (by simpa using hx) ?_ k (by omega)
    rw [Int.toNat_natCast, take_set_succ _ _ _ (by omega), take_map_succ cvR z78 l i (by omega), ht]
    rfl

theorem toRS (l : List S78) (hl : l.length ≤ 1048576) (k : Nat) (hk : l.length < k) : laws_toRelationS.f k l = some (l.map cvR) := by
  unfold laws_toRelationS.f
  rw [if_pos (by omega), Int.toNat_natCast, if_pos (by omega)]
  exact toRSl l hl l.length 0 _ (by omega) (by simp) (by simp) k hk

theorem eqR (a : S81) : laws_eqRelation.f a.f0 a.f1 a.f2 a.f0 a.f1 a.f2 = some true := by
  unfold laws_eqRelation.f
  rw [if_pos rfl, if_pos rfl, if_pos rfl]
theorem eqRSl (l : List S81) (hl : l.length ≤ 1048576) (d : Nat) : ∀ (i : Int), 0 ≤ i → (l.length : Int) - i = d → ∀ k, d < k → laws_eqRelationS.l0 k l l i = some true := by
  induction d with
  | zero =>
    intro i h0 hd k hk
    obtain ⟨k, rfl, hk⟩ := fuel hk
    rw [laws_eqRelationS.l0, if_neg (by omega)]
  | succ d ih =>
    intro i h0 hd k hk
    obtain ⟨k, rfl, hk⟩ := fuel hk
    rw [laws_eqRelationS.l0, if_pos (by omega), if_pos h0, if_pos (by omega), eqR]
    simp only [Option.bind_some, if_true]
    rw [w64 (by omega) (by omega)]
    exact ih (i + 1) (by omega) (by omega) k (by omega)
theorem eqRS (l : List S81) (hl : l.length ≤ 1048576) (k : Nat) (hk : l.length < k) : laws_eqRelationS.f k l l = some true := by
  unfold laws_eqRelationS.f
  rw [if_pos rfl]
  exact eqRSl l hl l.length 0 (by omega) (by omega) k hk

/-! ### facts: what the laws' own functions on them come to -/
def cvF (x : S24) : S27 := ⟨x.f0, x.f1⟩
theorem szI (l : List Int) (v : Int) (hl : l.length ≤ maxLen) (hv : 0 ≤ v) (hv1 : v ≤ 1048576) : ∃ r, laws_szIntS.f l v = some r ∧ r ≤ v ∧ -1 ≤ r ∧ (0 ≤ r → (l.length : Int) ≤ v) := by
  unfold maxLen at hl
  unfold laws_szIntS.f
  rw [w64 (by omega) (by omega)]
  by_cases h : v - (l.length : Int) < 0
  · exact ⟨-1, if_pos h, by omega, by omega, fun h => absurd h (by decide)⟩
  · exact ⟨_, if_neg h, by omega, by omega, fun _ => by omega⟩
theorem szF (a : Int) (l : List Int) (v : Int) (hl : l.length ≤ maxLen) (hv : 0 ≤ v) (hv1 : v ≤ 1048576) : ∃ r, laws_szFact.f a l v = some r ∧ r ≤ v ∧ -1 ≤ r ∧ (0 ≤ r → (l.length : Int) ≤ v) := by
  obtain ⟨r, h1, h2, h3, h4⟩ := szI l v hl hv hv1
  unfold laws_szFact.f
  rw [h1]
  simp only [Option.bind_some]
  by_cases h : r < 0
  · exact ⟨-1, if_pos h, by omega, by omega, fun h => absurd h (by decide)⟩
  · exact ⟨r, if_neg h, h2, h3, h4⟩
theorem toIl (l : List Int) (hl : l.length ≤ 1048576) (d : Nat) : ∀ (i : Nat) (xs : List Int), (l.length : Int) - i = d → xs.length = l.length → xs.take i = l.take i → ∀ k, d < k → laws_toIntS.l0 k l xs i = some l := by
  induction d with
  | zero =>
    intro i xs hd hx ht k hk
    obtain ⟨k, rfl, hk⟩ := fuel hk
    rw [laws_toIntS.l0, if_neg (by omega)]
    rw [List.take_of_length_le (by omega), List.take_of_length_le (by omega)] at ht
    rw [ht]
  | succ d ih =>
    intro i xs hd hx ht k hk
    obtain ⟨k, rfl, hk⟩ := fuel hk
    rw [laws_toIntS.l0, if_pos (by omega), if_pos (by omega), if_pos (by omega), show wrap64 ((i : Int) + 1) = ((i + 1 : Nat) : Int) by rw [w64 (by omega) (by omega)]; omega]
    refine ih (i + 1) _ (by omega) (by simpa using hx) ?_ k (by omega)
    rw [Int.toNat_natCast, take_set_succ _ _ _ (by omega), ht, List.take_succ_eq_append_getElem (by omega)]
    congr 2
    unfold rd
    rw [Int.toNat_natCast, getD_lt l _ i (by omega)]
theorem toI (l : List Int) (hl : l.length ≤ 1048576) (k : Nat) (hk : l.length < k) : laws_toIntS.f k l = some l := by
  unfold laws_toIntS.f
  rw [if_pos (by omega), Int.toNat_natCast, if_pos (by omega)]
  exact toIl l hl l.length 0 _ (by omega) (by simp) (by simp) k hk
theorem toF (a : Int) (l : List Int) (hl : l.length ≤ 1048576) (k : Nat) (hk : l.length < k) : laws_toFact.f k a l = some (a, l) := by
  unfold laws_toFact.f
  rw [toI l hl k hk]
  rfl
theorem eqIl (l : List Int) (hl : l.length ≤ 1048576) (d : Nat) : ∀ (i : Int), 0 ≤ i → (l.length : Int) - i = d → ∀ k, d < k → laws_eqIntS.l0 k l l i = some true := by
  induction d with
  | zero =>
    intro i h0 hd k hk
    obtain ⟨k, rfl, hk⟩ := fuel hk
    rw [laws_eqIntS.l0, if_neg (by omega)]
  | succ d ih =>
    intro i h0 hd k hk
    obtain ⟨k, rfl, hk⟩ := fuel hk
    rw [laws_eqIntS.l0, if_pos (by omega), if_pos h0, if_pos (by omega), if_pos rfl, w64 (by omega) (by omega)]
    exact ih (i + 1) (by omega) (by omega) k (by omega)
theorem eqI (l : List Int) (hl : l.length ≤ 1048576) (k : Nat) (hk : l.length < k) : laws_eqIntS.f k l l = some true := by
  unfold laws_eqIntS.f
  rw [if_pos rfl]
  exact eqIl l hl l.length 0 (by omega) (by omega) k hk
theorem eqF (a : Int) (l : List Int) (hl : l.length ≤ 1048576) (k : Nat) (hk : l.length < k) : laws_eqFact.f k a l a l = some true := by
  unfold laws_eqFact.f
  rw [if_pos rfl, eqI l hl k hk]
  rfl

/-! ### the order of facts: a plain function, and that both texts compute it -/
theorem cmpSl (a b : List Int) (ha : a.length ≤ 1048576) (hb : b.length ≤ 1048576) (d : Nat) : ∀ (i : Nat), i + d = a.length → ∀ k, 2 * d + 1 < k → spec_l3Ints.l0 k a b i = some (cmpI (a.drop i) (b.drop i)) ∨ b.length < i := by
  induction d with
  | zero =>
    intro i hd k hk
    by_cases hbi : b.length < i
    · exact .inr hbi
    left
    obtain ⟨k, rfl⟩ : ∃ z, k = z + 2 := ⟨k - 2, by omega⟩
    rw [spec_l3Ints.l0, if_neg (by omega), spec_l3Ints.j1, if_neg (by decide), cmpI_end (.inl (List.drop_of_length_le (by omega))), List.length_drop, List.length_drop]
    by_cases h1 : (a.length : Int) < (b.length : Int)
    · rw [if_pos h1, if_pos (show a.length - i < b.length - i by omega)]
    · rw [if_neg h1, if_neg (show ¬ (a.length : Int) > (b.length : Int) by omega), if_neg (show ¬ a.length - i < b.length - i by omega), if_neg (show ¬ a.length - i > b.length - i by omega)]
  | succ d ih =>
    intro i hd k hk
    by_cases hbi : b.length < i
    · exact .inr hbi
    left
    obtain ⟨k, rfl⟩ : ∃ z, k = z + 2 := ⟨k - 2, by omega⟩
    rw [spec_l3Ints.l0, if_pos (by omega)]
    by_cases hlt : i < b.length
    · have e1 : wrap64 ((i : Int) + 1) = ((i + 1 : Nat) : Int) := by rw [w64 (by omega) (by omega)]; omega
      have e2 : rd a (i : Int) = a[i] := by unfold rd; rw [Int.toNat_natCast, getD_lt a _ i (by omega)]
      have e3 : rd b (i : Int) = b[i] := by unfold rd; rw [Int.toNat_natCast, getD_lt b _ i (by omega)]
      rw [decide_eq_true (by omega), spec_l3Ints.j1, if_pos rfl, if_pos (by omega), if_pos (by omega), if_pos (by omega), e1, e2, e3]
      rw [List.drop_eq_getElem_cons (i := i) (l := a) (by omega), List.drop_eq_getElem_cons (i := i) (l := b) (by omega), cmpI]
      by_cases h1 : a[i] < b[i]
      · rw [if_pos h1, if_pos h1]
      · rw [if_neg h1, if_neg h1]
        by_cases h2 : a[i] > b[i]
        · rw [if_pos h2, if_pos h2]
        · rw [if_neg h2, if_neg h2]
          rcases ih (i + 1) (by omega) k (by omega) with h | h
          · exact h
          · omega
    · rw [decide_eq_false (by omega), spec_l3Ints.j1, if_neg (by decide), cmpI_end (.inr (List.drop_of_length_le (by omega))), List.length_drop, List.length_drop]
      rw [if_neg (show ¬ (a.length : Int) < (b.length : Int) by omega), if_pos (show (a.length : Int) > (b.length : Int) by omega), if_neg (show ¬ a.length - i < b.length - i by omega), if_pos (show a.length - i > b.length - i by omega)]
theorem cmpS (a b : List Int) (ha : a.length ≤ 1048576) (hb : b.length ≤ 1048576) (k : Nat) (hk : 2 * a.length + 1 < k) : spec_l3Ints.f k a b = some (cmpI a b) := by
  rcases cmpSl a b ha hb a.length 0 (by omega) k hk with h | h
  · exact h
  · omega
theorem cmpFS (x : Int) (a : List Int) (y : Int) (b : List Int) (ha : a.length ≤ 1048576) (hb : b.length ≤ 1048576) (k : Nat) (hk : 2 * a.length + 1 < k) : spec_CompareFacts.f k x a y b = some (cmpF x a y b) := by
  unfold spec_CompareFacts.f cmpF
  by_cases h1 : x < y
  · rw [if_pos h1, if_pos h1]
  · rw [if_neg h1, if_neg h1]
    by_cases h2 : x > y
    · rw [if_pos h2, if_pos h2]
    · rw [if_neg h2, if_neg h2, cmpS a b ha hb k hk]
      rfl


/-! ### valid facts -/
/-- A fact of these relations: its relation is one of them, it has vs many values vs that one asks, each a value. -/
def fits (l : List S81) (a : Int) (vs : List Int) : Bool := decide (0 ≤ a ∧ a < (l.length : Int) ∧ (vs.length : Int) = (rd_T81 l a).f1) && !vs.any noVal
def vFact (l : List S81) (a : Int) (vs : List Int) : Bool := vRels l && fits l a vs

theorem in1 (x a b : Int) : spec_l1In.f x a b = some (decide (a ≤ x ∧ x ≤ b)) := by
  unfold spec_l1In.f
  by_cases h : a ≤ x
  · rw [if_pos h]; simp [h]
  · rw [if_neg h]; simp [h]
theorem vFSl (a : Int) (vs : List Int) (hs : vs.length ≤ 1048576) (d : Nat) : ∀ (i : Nat), i + d = vs.length → ∀ k, d < k → spec_IsValidFact.l0 k i a vs = some (!(vs.drop i).any noVal) := by
  induction d with
  | zero =>
    intro i hd k hk
    obtain ⟨k, rfl, hk⟩ := fuel hk
    rw [spec_IsValidFact.l0, if_neg (by omega), List.drop_of_length_le (by omega)]
    rfl
  | succ d ih =>
    intro i hd k hk
    obtain ⟨k, rfl, hk⟩ := fuel hk
    rw [spec_IsValidFact.l0, if_pos (by omega), if_pos (by omega), in1, Option.bind_some, List.drop_eq_getElem_cons (i := i) (l := vs) (by omega), List.any_cons]
    rw [show wrap64 ((i : Int) + 1) = ((i + 1 : Nat) : Int) by rw [w64 (by omega) (by omega)]; omega, show rd vs (i : Int) = vs[i] by unfold rd; rw [Int.toNat_natCast, getD_lt vs _ i (by omega)]]
    by_cases h : 0 ≤ vs[i] ∧ vs[i] ≤ 9
    · rw [if_pos (by simpa using h), ih (i + 1) (by omega) k (by omega)]
      have : noVal vs[i] = false := by simp [noVal, h]
      rw [this, Bool.false_or]
    · rw [if_neg (by simpa using h)]
      have : noVal vs[i] = true := by
        unfold noVal
        by_cases h1 : 0 ≤ vs[i]
        · have h2 : ¬ vs[i] ≤ 9 := fun h2 => h ⟨h1, h2⟩
          simp [h2]
        · simp [h1]
      rw [this, Bool.true_or]
      rfl
theorem vFS (l : List S81) (hl : l.length ≤ 1048576) (a : Int) (vs : List Int) (hs : vs.length ≤ 1048576) (k : Nat) (hk : vs.length + 1 < k) : spec_IsValidFact.f k l a vs = some (vFact l a vs) := by
  obtain ⟨k, rfl⟩ : ∃ z, k = z + 1 := ⟨k - 1, by omega⟩
  unfold spec_IsValidFact.f spec_AreValidRelations.f vFact fits
  rw [Option.bind_some, in1, Option.bind_some, w64 (by omega) (by omega)]
  by_cases h0 : vRels l = true
  · rw [if_pos h0]
    by_cases h1 : 0 ≤ a ∧ a < (l.length : Int)
    · rw [if_pos (by simpa using (by omega : 0 ≤ a ∧ a ≤ (l.length : Int) - 1)), if_pos h1.1, if_pos h1.2, spec_IsValidFact.j0]
      by_cases h2 : (vs.length : Int) = (rd_T81 l a).f1
      · rw [if_neg (by simpa using h2), show (0 : Int) = ((0 : Nat) : Int) from rfl, vFSl a vs hs vs.length 0 (by omega) k (by omega), h0, decide_eq_true (by exact ⟨h1.1, h1.2, h2⟩)]
        simp
      · rw [if_pos (by simpa using h2), decide_eq_false (by intro h; exact h2 h.2.2)]
        simp
    · rw [if_neg (by simpa using (by omega : 0 ≤ a → ¬ a ≤ (l.length : Int) - 1)), spec_IsValidFact.j0, if_pos rfl, decide_eq_false (by intro h; exact h1 ⟨h.1, h.2.1⟩)]
      simp
  · rw [if_neg h0, spec_IsValidFact.j0, if_pos rfl]
    simp [h0]
theorem fitI (l : List S81) (hl : l.length ≤ 9223372036854775807) (a : Int) (vs : List Int) : impl_isFact.f l a vs = some (fits l a vs) := by
  unfold impl_isFact.f impl_areValues.f fits
  rw [inI, Option.bind_some, Option.bind_some, w64 (by omega) (by omega)]
  by_cases h1 : 0 ≤ a ∧ a < (l.length : Int)
  · rw [if_pos (by unfold inB; simpa using (by omega : 0 ≤ a ∧ a ≤ (l.length : Int) - 1)), if_pos h1.1, if_pos h1.2]
    by_cases h2 : (vs.length : Int) = (rd_T81 l a).f1
    · rw [if_pos h2, decide_eq_true (by exact ⟨h1.1, h1.2, h2⟩)]
      simp
    · rw [if_neg h2, decide_eq_false (by intro h; exact h2 h.2.2)]
      simp
  · rw [if_neg (by unfold inB; simpa using (by omega : 0 ≤ a → ¬ a ≤ (l.length : Int) - 1)), decide_eq_false (by intro h; exact h1 ⟨h.1, h.2.1⟩)]
    simp


/-! ### valid facts, the program's own question -/
theorem vFI (l : List S81) (hl : l.length ≤ 1048576) (a : Int) (vs : List Int) : impl_IsValidFact.f l a vs = some (vFact l a vs) := by
  unfold impl_IsValidFact.f impl_AreValidRelations.f vFact
  rw [Option.bind_some, fitI l (by omega), Option.bind_some]
  by_cases h0 : vRels l = true
  · rw [if_pos h0, h0]; rfl
  · rw [if_neg h0]; simp [h0]

/-! ### keys -/
theorem inB_iff (x a b : Int) : inB x a b = true ↔ a ≤ x ∧ x ≤ b := by unfold inB; exact decide_eq_true_iff
theorem vRelsFrom_at (l : List S81) : ∀ (d i : Nat), vRelsFrom l d i = true → ∀ j, i ≤ j → j < i + d → vRel (l.getD j z81) = true
  | 0, i, _, j, h1, h2 => by omega
  | d + 1, i, h, j, h1, h2 => by
    rw [vRelsFrom, Bool.and_eq_true, Bool.and_eq_true] at h
    by_cases hj : j = i
    · subst hj
      exact h.1.1
    · exact vRelsFrom_at l d (i + 1) h.2 j (by omega) (by omega)
theorem vRels_at (l : List S81) (h : vRels l = true) (a : Int) (h0 : 0 ≤ a) (h1 : a < (l.length : Int)) : vRel (rd_T81 l a) = true := by
  unfold rd_T81
  exact vRelsFrom_at l l.length 0 h a.toNat (by omega) (by omega)
theorem fits_iff (l : List S81) (a : Int) (vs : List Int) : fits l a vs = true ↔ (0 ≤ a ∧ a < (l.length : Int) ∧ (vs.length : Int) = (rd_T81 l a).f1) ∧ vs.any noVal = false := by
  unfold fits
  rw [Bool.and_eq_true, decide_eq_true_iff, Bool.not_eq_true']
theorem key_ok (l : List S81) (hr : vRels l = true) (a : Int) (vs : List Int) (h : fits l a vs = true) :
    0 ≤ a ∧ a < (l.length : Int) ∧ 0 ≤ (rd_T81 l a).f2 ∧ (rd_T81 l a).f2 ≤ (vs.length : Int) ∧ (vs.length : Int) = (rd_T81 l a).f1 ∧ vs.length ≤ 3 := by
  obtain ⟨⟨h0, h1, h2⟩, _⟩ := (fits_iff l a vs).1 h
  have hv := vRels_at l hr a h0 h1
  unfold vRel at hv
  rw [Bool.and_eq_true, Bool.and_eq_true, inB_iff, inB_iff] at hv
  exact ⟨h0, h1, by omega, by omega, h2, by omega⟩
theorem cmpI_zero : ∀ (x y : List Int), cmpI x y = 0 ↔ x = y
  | [], [] => by simp [cmpI]
  | [], _ :: _ => by simp [cmpI]
  | _ :: _, [] => by simp [cmpI]
  | x :: xs, y :: ys => by
    rw [cmpI]
    by_cases h1 : x < y
    · rw [if_pos h1]
      constructor
      · intro h; omega
      · intro h; have := (List.cons.inj h).1; omega
    · rw [if_neg h1]
      by_cases h2 : x > y
      · rw [if_pos h2]
        constructor
        · intro h; omega
        · intro h; have := (List.cons.inj h).1; omega
      · rw [if_neg h2, cmpI_zero xs ys]
        have : x = y := by omega
        subst this
        simp
/-- The two facts have one key. -/
def sameK (l : List S81) (a : Int) (x : List Int) (b : Int) (y : List Int) : Bool := decide (a = b) && decide (x.take ((rd_T81 l a).f2).toNat = y.take ((rd_T81 l a).f2).toNat)
def keyOf (l : List S81) (a : Int) (vs : List Int) : List Int := if vFact l a vs = true then vs.take ((rd_T81 l a).f2).toNat else []
theorem keyS (l : List S81) (hl : l.length ≤ 1048576) (a : Int) (vs : List Int) (hs : vs.length ≤ 1048576) (k : Nat) (hk : vs.length + 1 < k) : spec_KeyOf.f k l a vs = some (keyOf l a vs) := by
  unfold spec_KeyOf.f keyOf
  rw [vFS l hl a vs hs k hk, Option.bind_some]
  by_cases h : vFact l a vs = true
  · have h' := h
    unfold vFact at h'
    rw [Bool.and_eq_true] at h'
    obtain ⟨h0, h1, h2, h3, h4, h5⟩ := key_ok l h'.1 a vs h'.2
    rw [if_pos h, if_pos h, Option.bind_some, if_pos h0, if_pos h1, if_pos h2, if_pos h3, if_pos (by simp only [List.length_nil, List.length_take]; omega), List.nil_append]
  · rw [if_neg h, if_neg h]

theorem keyI (l : List S81) (hl : l.length ≤ 1048576) (a : Int) (vs : List Int) (hs : vs.length ≤ 1048576) : impl_KeyOf.f l a vs = some (keyOf l a vs) := by
  unfold impl_KeyOf.f keyOf
  rw [vFI l hl a vs, Option.bind_some]
  by_cases h : vFact l a vs = true
  · have h' := h
    unfold vFact at h'
    rw [Bool.and_eq_true] at h'
    obtain ⟨h0, h1, h2, h3, h4, h5⟩ := key_ok l h'.1 a vs h'.2
    unfold slices_Clone_int_int.f
    rw [if_pos h, if_pos h, if_pos h0, if_pos h1, if_pos h2, if_pos h3, Option.bind_some, if_pos (by simp only [List.length_nil, List.length_take]; omega), List.nil_append, Option.bind_some]
  · rw [if_neg h, if_neg h]
theorem keyOf_len (l : List S81) (a : Int) (vs : List Int) (hs : vs.length ≤ 1048576) : (keyOf l a vs).length ≤ 1048576 := by
  unfold keyOf
  by_cases h : vFact l a vs = true
  · rw [if_pos h, List.length_take]; omega
  · rw [if_neg h]; simp

/-! ### marks: what the laws write into results, and read again -/
def cnt : Int → Nat → List Int
  | _, 0 => []
  | a, d + 1 => a :: cnt (a + 1) d
theorem cnt_len : ∀ (a : Int) (d : Nat), (cnt a d).length = d
  | _, 0 => rfl
  | a, d + 1 => by rw [cnt, List.length_cons, cnt_len]
theorem markIl (n : Nat) (hn : n ≤ 1048576) (d : Nat) : ∀ (i : Nat) (xs : List Int) (a : Int), xs.length = n → i + d = n → 0 ≤ a → a + (d : Int) ≤ 1000000000 → ∀ k, d < k → laws_markIntS.l0 k xs a i = some (a + d, xs.take i ++ cnt a d) := by
  induction d with
  | zero =>
    intro i xs a hx hd _ _ k hk
    obtain ⟨k, rfl, hk⟩ := fuel hk
    rw [laws_markIntS.l0, if_neg (by omega), List.take_of_length_le (by omega), cnt, List.append_nil]
    simp
  | succ d ih =>
    intro i xs a hx hd h0 h1 k hk
    obtain ⟨k, rfl, hk⟩ := fuel hk
    rw [laws_markIntS.l0, if_pos (by omega), if_pos (by omega), Int.toNat_natCast, w64 (by omega) (by omega), show wrap64 ((i : Int) + 1) = ((i + 1 : Nat) : Int) by rw [w64 (by omega) (by omega)]; omega, ih (i + 1) (xs.set i a) (a + 1) (by simpa using hx) (by omega) (by omega) (by omega) k (by omega), take_set_succ xs i a (by omega), cnt, List.append_assoc]
    congr 2
    omega
theorem markI (xs : List Int) (hn : xs.length ≤ 1048576) (a : Int) (h0 : 0 ≤ a) (h1 : a ≤ 100000000) (k : Nat) (hk : xs.length < k) : laws_markIntS.f k xs a = some (a + xs.length, cnt a xs.length) := by
  unfold laws_markIntS.f
  exact markIl xs.length hn xs.length 0 xs a rfl (by omega) h0 (by omega) k hk
theorem heldIl (a0 : Int) (n : Nat) (h0 : 0 ≤ a0) (h1 : a0 ≤ 100000000) (hn : n ≤ 1048576) (d : Nat) : ∀ (i : Nat), i + d = n → (cnt a0 n).drop i = cnt (a0 + i) d → ∀ k, d < k → laws_heldIntS.l0 k (cnt a0 n) (a0 + i) i = some (a0 + n) := by
  have hl := cnt_len a0 n
  induction d with
  | zero =>
    intro i hd _ k hk
    obtain ⟨k, rfl, hk⟩ := fuel hk
    rw [laws_heldIntS.l0, if_neg (by omega), show i = n by omega]
  | succ d ih =>
    intro i hd hc k hk
    obtain ⟨k, rfl, hk⟩ := fuel hk
    rw [cnt, List.drop_eq_getElem_cons (by omega)] at hc
    obtain ⟨c1, c2⟩ := List.cons.inj hc
    have hr : rd (cnt a0 n) (i : Int) = a0 + i := by unfold rd; rw [Int.toNat_natCast, getD_lt _ _ i (by omega)]; exact c1
    rw [laws_heldIntS.l0, if_pos (by omega), if_pos (by omega), if_pos hr, show wrap64 ((i : Int) + 1) = ((i + 1 : Nat) : Int) by rw [w64 (by omega) (by omega)]; omega, show wrap64 (a0 + (i : Int) + 1) = a0 + ((i + 1 : Nat) : Int) by rw [w64 (by omega) (by omega)]; omega]
    refine ih (i + 1) (by omega) ?_ k (by omega)
    rw [c2]
    congr 1
    omega
theorem heldI (n : Nat) (a0 : Int) (h0 : 0 ≤ a0) (h1 : a0 ≤ 100000000) (hn : n ≤ 1048576) (k : Nat) (hk : n < k) : laws_heldIntS.f k (cnt a0 n) a0 = some (a0 + n) := by
  unfold laws_heldIntS.f
  have := heldIl a0 n h0 h1 hn n 0 (by omega) (by simp) k hk
  simpa using this
theorem textl (d : Nat) : ∀ (x : Int) (s : ByteArray), 0 ≤ x → x < 10 ^ d → x ≤ 4000000000 → s.size + d ≤ 1000 → ∀ k, d < k → ∃ t, laws_markText.l0 k x s = some t := by
  induction d with
  | zero =>
    intro x s h0 h1 _ hs k hk
    rw [Int.pow_zero] at h1
    obtain ⟨k, rfl, hk⟩ := fuel hk
    rw [laws_markText.l0, if_neg (by omega), if_pos (by omega)]
    exact ⟨_, rfl⟩
  | succ d ih =>
    intro x s h0 h1 h2 hs k hk
    obtain ⟨k, rfl, hk⟩ := fuel hk
    by_cases hx : x > 0
    · have hz : ∀ z : Int, (strOfNums [z]).size = 1 := fun z => by rw [sn_size]; rfl
      rw [laws_markText.l0, if_pos hx, Option.bind_some, if_pos (by rw [hz]; omega), td h0, w64 (n := x / 10) (by omega) (by omega)]
      exact ih (x / 10) _ (by omega) (by rw [Int.pow_succ] at h1; omega) (by omega) (by rw [ByteArray.size_append, hz]; omega) k (by omega)
    · rw [laws_markText.l0, if_neg hx, if_pos (by omega)]
      exact ⟨_, rfl⟩
theorem markT (x : Int) (h0 : 0 ≤ x) (h1 : x ≤ 1000000000) (k : Nat) (hk : 20 < k) : ∃ t, laws_markText.f k x = some t := by
  unfold laws_markText.f
  by_cases h : x ≤ 0
  · exact ⟨_, if_pos h⟩
  · rw [if_neg h]
    have hp : (10 : Int) ^ 10 = 10000000000 := by decide
    exact textl 10 x ⟨#[]⟩ h0 (by omega) (by omega) (by decide) k (by omega)
theorem markRl (n : Nat) (hn : n ≤ 1048576) (d : Nat) : ∀ (i : Nat) (xs : List S81) (a : Int), xs.length = n → i + d = n → 0 ≤ a → a + 3 * (d : Int) ≤ 1000000000 → ∀ k, d + 21 < k → ∃ ys : List S81, laws_markRelationS.l0 k xs a i = some (a + 3 * d, ys) := by
  induction d with
  | zero =>
    intro i xs a hx hd _ _ k hk
    obtain ⟨k, rfl, hk⟩ := fuel hk
    rw [laws_markRelationS.l0, if_neg (by omega)]
    exact ⟨xs, by simp⟩
  | succ d ih =>
    intro i xs a hx hd h0 h1 k hk
    obtain ⟨k, rfl, hk⟩ := fuel hk
    obtain ⟨t, ht⟩ := markT a h0 (by omega) k (by omega)
    rw [laws_markRelationS.l0, if_pos (by omega), ht, Option.bind_some, if_pos (by omega), Option.bind_some, Option.bind_some, w64 (n := a + 1) (by omega) (by omega), w64 (n := a + 1 + 1) (by omega) (by omega), w64 (n := a + 1 + 1 + 1) (by omega) (by omega), show wrap64 ((i : Int) + 1) = ((i + 1 : Nat) : Int) by rw [w64 (by omega) (by omega)]; omega, show a + 3 * ((d + 1 : Nat) : Int) = a + 1 + 1 + 1 + 3 * (d : Int) by omega]
    exact ih (i + 1) _ (a + 1 + 1 + 1) (by simpa using hx) (by omega) (by omega) (by omega) k (by omega)
theorem markR (xs : List S81) (hn : xs.length ≤ 1048576) (a : Int) (h0 : 0 ≤ a) (h1 : a ≤ 100000000) (k : Nat) (hk : xs.length + 21 < k) : ∃ ys : List S81, laws_markRelationS.f k xs a = some (a + 3 * xs.length, ys) := by
  unfold laws_markRelationS.f
  exact markRl xs.length hn xs.length 0 xs a rfl (by omega) h0 (by omega) k hk


theorem FnExactKeyOf : FnExactKeyOfPure := by
  intro l x hl hx
  obtain ⟨r, h1, h2, h3, h4⟩ := szRS l hl.1 (fun y hy => (hl.2 y hy).1) 1048576 (by omega) (by omega)
  by_cases hr : r < 0
  · refine ⟨l.length + 1, ?_⟩
    unfold laws_FnExactKeyOf.f
    rw [h4 _ (by omega), Option.bind_some, if_pos hr]
  obtain ⟨r', g1, g2, g3, g4⟩ := szF x.f0 x.f1 r hx.2.1 (by omega) (by omega)
  by_cases hr' : r' < 0
  · refine ⟨l.length + 1, ?_⟩
    unfold laws_FnExactKeyOf.f
    rw [h4 _ (by omega), Option.bind_some, if_neg hr, g1, Option.bind_some, if_pos hr']
  have hl' : l.length ≤ 1048576 := by have := h3 (by omega); omega
  have hx' : x.f1.length ≤ 1048576 := by have := g4 (by omega); omega
  have hm : (l.map cvR).length = l.length := by simp
  have hkl := keyOf_len (l.map cvR) x.f0 x.f1 hx'
  refine ⟨9000001, ?_⟩
  generalize hk : (9000001 : Nat) = k
  have hk1 : ∃ k', k = k' + 1 ∧ k' = 9000000 := ⟨9000000, by omega, rfl⟩
  obtain ⟨k', e1, e2⟩ := hk1
  obtain ⟨ys, hys⟩ := markR (l.map cvR) (by omega) 1 (by omega) (by omega) k (by omega)
  unfold laws_FnExactKeyOf.f
  rw [h4 _ (by omega), Option.bind_some, if_neg hr, g1, Option.bind_some, if_neg hr', toRS l hl' _ (by omega), toF _ _ hx' _ (by omega)]
  simp only [Option.bind_some]
  rw [keyS _ (by omega) _ _ hx' _ (by omega), keyI _ (by omega) _ _ hx']
  simp only [Option.bind_some]
  rw [eqI _ hkl _ (by omega), eqRS _ (by omega) _ (by omega), eqF _ _ hx' _ (by omega), hys]
  simp only [Option.bind_some, if_true]
  rw [laws_markFact.f, markI _ hx' _ (by omega) (by omega) _ (by omega)]
  simp only [Option.bind_some]
  rw [if_neg (by omega), e1, laws_FnExactKeyOf.j0, if_neg (by decide), markI _ hkl 1 (by omega) (by omega) _ (by omega)]
  simp only [Option.bind_some]
  rw [heldI _ 1 (by omega) (by omega) hkl _ (by omega)]
  simp only [Option.bind_some]
  rw [if_neg (by omega), if_pos trivial, toRS l hl' _ (by omega), toF _ _ hx' _ (by omega)]
  simp only [Option.bind_some]
  rw [keyI _ (by omega) _ _ hx']
  simp only [Option.bind_some]
  rw [eqI _ hkl _ (by omega)]
  simp only [Option.bind_some, if_true]
  rw [if_neg (by omega)]

end Go.Proofs.Ytddeflhambegiaa.Pure
