/- The law FnExactFormatDatabase answers true for every database that the row admits: both texts answer alike, and the argument is left as it was. -/
import Derived.Test.YtckpikfbhlhhjaaDoorGFnExactFormatDatabase
import Derived.Test.YtckpikfbhlhhjaaDoorBase
import Derived.Lib.ItoaLen
namespace Go.Proofs.YtckpikfbhlhhjaaDoor.Pure
open Go.RowKit Go.Proofs.YtckpikfbhlhhjaaDoor.PFnExactFormatDatabase Go.Proofs.YtckpikfbhlhhjaaDoorW.PrintWords Go.Proofs.YtckpikfbhlhhjaaDoorW.PrintLast Go.Proofs.YtckpikfbhlhhjaaDoorW.PrintMore Go.Proofs.YtckpikfbhlhhjaaDoor.Base
set_option linter.unusedVariables false
set_option linter.unusedSimpArgs false

/-! ### relations: what the laws' own functions on them come to -/
def cvR (x : S98) : S68 := ⟨x.f0, x.f1, x.f2⟩

theorem szR (n a b v : _) (hn : n.size ≤ maxLen) (hv : 0 ≤ v) (hv1 : v ≤ 1048576) : ∃ r, laws_szRelation.f n a b v = some r ∧ r ≤ v ∧ -1 ≤ r ∧ (0 ≤ r → (n.size : Int) ≤ v) := by
  unfold maxLen at hn
  unfold laws_szRelation.f
  rw [w64 (by omega) (by omega)]
  by_cases h : v - (n.size : Int) < 0
  · exact ⟨-1, if_pos h, by omega, by omega, fun h => absurd h (by decide)⟩
  · exact ⟨_, if_neg h, by omega, by omega, fun _ => by omega⟩

theorem szRSl (l : List S98) (hl : l.length ≤ maxLen) (hg : ∀ y ∈ l, y.f0.size ≤ maxLen) (d : Nat) : ∀ (i v : Int), 0 ≤ i → (l.length : Int) - i = d → 0 ≤ v → v ≤ 1048576 → ∃ r, r ≤ v ∧ -1 ≤ r ∧ ∀ k, d < k → laws_szRelationS.l0 k l v i = some r := by
  unfold maxLen at hl
  induction d with
  | zero =>
    intro i v h0 hd hv _
    refine ⟨v, by omega, by omega, fun k hk => ?_⟩
    obtain ⟨k, rfl, hk⟩ := fuel hk
    rw [laws_szRelationS.l0, if_neg (by omega)]
  | succ d ih =>
    intro i v h0 hd hv hv1
    obtain ⟨r, hr, h1, h2, _⟩ := szR (rd_T98 l i).f0 (rd_T98 l i).f1 (rd_T98 l i).f2 v (hg _ (getD_mem l _ _ (by omega))) hv hv1
    by_cases hneg : r < 0
    · refine ⟨-1, by omega, by omega, fun k hk => ?_⟩
      obtain ⟨k, rfl, hk⟩ := fuel hk
      rw [laws_szRelationS.l0, if_pos (by omega), if_pos h0, hr]
      simp only [Option.bind_some]
      rw [if_pos hneg]
    · obtain ⟨r', h3, h4, h5⟩ := ih (i + 1) r (by omega) (by omega) (by omega) (by omega)
      refine ⟨r', by omega, h4, fun k hk => ?_⟩
      obtain ⟨k, rfl, hk⟩ := fuel hk
      rw [laws_szRelationS.l0, if_pos (by omega), if_pos h0, hr]
      simp only [Option.bind_some]
      rw [if_neg hneg, w64 (by omega) (by omega)]
      exact h5 k (by omega)

theorem szRS (l : List S98) (hl : l.length ≤ maxLen) (hg : ∀ y ∈ l, y.f0.size ≤ maxLen) (v : Int) (hv : 0 ≤ v) (hv1 : v ≤ 1048576) : ∃ r, r ≤ v ∧ -1 ≤ r ∧ (0 ≤ r → (l.length : Int) ≤ v) ∧ ∀ k, l.length < k → laws_szRelationS.f k l v = some r := by
  have hl' := hl
  unfold maxLen at hl'
  unfold laws_szRelationS.f
  rw [w64 (by omega) (by omega)]
  by_cases h : v - (l.length : Int) < 0
  · exact ⟨-1, by omega, by omega, fun h => absurd h (by decide), fun k _ => if_pos h⟩
  · obtain ⟨r, h1, h2, h3⟩ := szRSl l hl hg l.length 0 (v - l.length) (by omega) (by omega) (by omega) (by omega)
    exact ⟨r, by omega, h2, fun _ => by omega, fun k hk => by rw [if_neg h]; exact h3 k hk⟩

theorem toRSl (l : List S98) (hl : l.length ≤ 1048576) (d : Nat) : ∀ (i : Nat) (xs : List S68), (l.length : Int) - i = d → xs.length = l.length → xs.take i = (l.take i).map cvR → ∀ k, d < k → laws_toRelationS.l0 k l xs i = some (l.map cvR) := by
  induction d with
  | zero =>
    intro i xs hd hx ht k hk
    obtain ⟨k, rfl, hk⟩ := fuel hk
    rw [laws_toRelationS.l0, if_neg (by omega)]
    rw [List.take_of_length_le (by omega), List.take_of_length_le (by omega)] at ht
    rw [ht]
  | succ d ih =>
    intro i xs hd hx ht k hk
    obtain ⟨k, rfl, hk⟩ := fuel hk
    rw [laws_toRelationS.l0, if_pos (by omega), if_pos (by omega), laws_toRelation.f]
    simp only [Option.bind_some]
    rw [if_pos (by omega), show wrap64 ((i : Int) + 1) = ((i + 1 : Nat) : Int) by rw [w64 (by omega) (by omega)]; omega]
    refine ih (i + 1) _ (by omega) (by simpa using hx) ?_ k (by omega)
    rw [Int.toNat_natCast, take_set_succ _ _ _ (by omega), take_map_succ cvR z98 l i (by omega), ht]
    rfl

theorem toRS (l : List S98) (hl : l.length ≤ 1048576) (k : Nat) (hk : l.length < k) : laws_toRelationS.f k l = some (l.map cvR) := by
  unfold laws_toRelationS.f
  rw [if_pos (by omega), Int.toNat_natCast, if_pos (by omega)]
  exact toRSl l hl l.length 0 _ (by omega) (by simp) (by simp) k hk

theorem eqR (a : S68) : laws_eqRelation.f a.f0 a.f1 a.f2 a.f0 a.f1 a.f2 = some true := by
  unfold laws_eqRelation.f
  rw [if_pos rfl, if_pos rfl, if_pos rfl]
theorem eqRSl (l : List S68) (hl : l.length ≤ 1048576) (d : Nat) : ∀ (i : Int), 0 ≤ i → (l.length : Int) - i = d → ∀ k, d < k → laws_eqRelationS.l0 k l l i = some true := by
  induction d with
  | zero =>
    intro i h0 hd k hk
    obtain ⟨k, rfl, hk⟩ := fuel hk
    rw [laws_eqRelationS.l0, if_neg (by omega)]
  | succ d ih =>
    intro i h0 hd k hk
    obtain ⟨k, rfl, hk⟩ := fuel hk
    rw [laws_eqRelationS.l0, if_pos (by omega), if_pos h0, if_pos (by omega), eqR]
    simp only [Option.bind_some, if_true]
    rw [w64 (by omega) (by omega)]
    exact ih (i + 1) (by omega) (by omega) k (by omega)
theorem eqRS (l : List S68) (hl : l.length ≤ 1048576) (k : Nat) (hk : l.length < k) : laws_eqRelationS.f k l l = some true := by
  unfold laws_eqRelationS.f
  rw [if_pos rfl]
  exact eqRSl l hl l.length 0 (by omega) (by omega) k hk

/-! ### facts: what the laws' own functions on them come to -/
def cvF (x : S100) : S39 := ⟨x.f0, x.f1⟩
theorem szI (l : List Int) (v : Int) (hl : l.length ≤ maxLen) (hv : 0 ≤ v) (hv1 : v ≤ 1048576) : ∃ r, laws_szIntS.f l v = some r ∧ r ≤ v ∧ -1 ≤ r ∧ (0 ≤ r → (l.length : Int) ≤ v) := by
  unfold maxLen at hl
  unfold laws_szIntS.f
  rw [w64 (by omega) (by omega)]
  by_cases h : v - (l.length : Int) < 0
  · exact ⟨-1, if_pos h, by omega, by omega, fun h => absurd h (by decide)⟩
  · exact ⟨_, if_neg h, by omega, by omega, fun _ => by omega⟩
theorem szF (a : Int) (l : List Int) (v : Int) (hl : l.length ≤ maxLen) (hv : 0 ≤ v) (hv1 : v ≤ 1048576) : ∃ r, laws_szFact.f a l v = some r ∧ r ≤ v ∧ -1 ≤ r ∧ (0 ≤ r → (l.length : Int) ≤ v) := by
  obtain ⟨r, h1, h2, h3, h4⟩ := szI l v hl hv hv1
  unfold laws_szFact.f
  rw [h1]
  simp only [Option.bind_some]
  by_cases h : r < 0
  · exact ⟨-1, if_pos h, by omega, by omega, fun h => absurd h (by decide)⟩
  · exact ⟨r, if_neg h, h2, h3, h4⟩
/-! ### lists of numbers: what the laws' own functions on them come to -/
theorem toIl (l : List Int) (hl : l.length ≤ 1048576) (d : Nat) : ∀ (i : Nat) (xs : List Int), (l.length : Int) - i = d → xs.length = l.length → xs.take i = l.take i → ∀ k, d < k → laws_toIntS.l0 k l xs i = some l := by
  induction d with
  | zero =>
    intro i xs hd hx ht k hk
    obtain ⟨k, rfl, hk⟩ := fuel hk
    rw [laws_toIntS.l0, if_neg (by omega)]
    rw [List.take_of_length_le (by omega), List.take_of_length_le (by omega)] at ht
    rw [ht]
  | succ d ih =>
    intro i xs hd hx ht k hk
    obtain ⟨k, rfl, hk⟩ := fuel hk
    rw [laws_toIntS.l0, if_pos (by omega), if_pos (by omega), if_pos (by omega), show wrap64 ((i : Int) + 1) = ((i + 1 : Nat) : Int) by rw [w64 (by omega) (by omega)]; omega]
    refine ih (i + 1) _ (by omega) (by simpa using hx) ?_ k (by omega)
    rw [Int.toNat_natCast, take_set_succ _ _ _ (by omega), ht, List.take_succ_eq_append_getElem (by omega)]
    congr 2
    unfold rd
    rw [Int.toNat_natCast, getD_lt l _ i (by omega)]
theorem toI (l : List Int) (hl : l.length ≤ 1048576) (k : Nat) (hk : l.length < k) : laws_toIntS.f k l = some l := by
  unfold laws_toIntS.f
  rw [if_pos (by omega), Int.toNat_natCast, if_pos (by omega)]
  exact toIl l hl l.length 0 _ (by omega) (by simp) (by simp) k hk
theorem eqIl (l : List Int) (hl : l.length ≤ 1048576) (d : Nat) : ∀ (i : Int), 0 ≤ i → (l.length : Int) - i = d → ∀ k, d < k → laws_eqIntS.l0 k l l i = some true := by
  induction d with
  | zero =>
    intro i h0 hd k hk
    obtain ⟨k, rfl, hk⟩ := fuel hk
    rw [laws_eqIntS.l0, if_neg (by omega)]
  | succ d ih =>
    intro i h0 hd k hk
    obtain ⟨k, rfl, hk⟩ := fuel hk
    rw [laws_eqIntS.l0, if_pos (by omega), if_pos h0, if_pos (by omega), if_pos rfl, w64 (by omega) (by omega)]
    exact ih (i + 1) (by omega) (by omega) k (by omega)
theorem eqI (l : List Int) (hl : l.length ≤ 1048576) (k : Nat) (hk : l.length < k) : laws_eqIntS.f k l l = some true := by
  unfold laws_eqIntS.f
  rw [if_pos rfl]
  exact eqIl l hl l.length 0 (by omega) (by omega) k hk

theorem toF (a : Int) (l : List Int) (hl : l.length ≤ 1048576) (k : Nat) (hk : l.length < k) : laws_toFact.f k a l = some (a, l) := by
  unfold laws_toFact.f
  rw [toI l hl k hk]
  rfl
theorem eqF (a : Int) (l : List Int) (hl : l.length ≤ 1048576) (k : Nat) (hk : l.length < k) : laws_eqFact.f k a l a l = some true := by
  unfold laws_eqFact.f
  rw [if_pos rfl, eqI l hl k hk]
  rfl

/-! ### the order of facts: a plain function, and that both texts compute it -/
theorem cmpSl (a b : List Int) (ha : a.length ≤ 1048576) (hb : b.length ≤ 1048576) (d : Nat) : ∀ (i : Nat), i + d = a.length → ∀ k, 2 * d + 1 < k → spec_l3Ints.l0 k a b i = some (cmpI (a.drop i) (b.drop i)) ∨ b.length < i := by
  induction d with
  | zero =>
    intro i hd k hk
    by_cases hbi : b.length < i
    · exact .inr hbi
    left
    obtain ⟨k, rfl⟩ : ∃ z, k = z + 2 := ⟨k - 2, by omega⟩
    rw [spec_l3Ints.l0, if_neg (by omega), spec_l3Ints.j1, if_neg (by decide), cmpI_end (.inl (List.drop_of_length_le (by omega))), List.length_drop, List.length_drop]
    by_cases h1 : (a.length : Int) < (b.length : Int)
    · rw [if_pos h1, if_pos (show a.length - i < b.length - i by omega)]
    · rw [if_neg h1, if_neg (show ¬ (a.length : Int) > (b.length : Int) by omega), if_neg (show ¬ a.length - i < b.length - i by omega), if_neg (show ¬ a.length - i > b.length - i by omega)]
  | succ d ih =>
    intro i hd k hk
    by_cases hbi : b.length < i
    · exact .inr hbi
    left
    obtain ⟨k, rfl⟩ : ∃ z, k = z + 2 := ⟨k - 2, by omega⟩
    rw [spec_l3Ints.l0, if_pos (by omega)]
    by_cases hlt : i < b.length
    · have e1 : wrap64 ((i : Int) + 1) = ((i + 1 : Nat) : Int) := by rw [w64 (by omega) (by omega)]; omega
      have e2 : rd a (i : Int) = a[i] := by unfold rd; rw [Int.toNat_natCast, getD_lt a _ i (by omega)]
      have e3 : rd b (i : Int) = b[i] := by unfold rd; rw [Int.toNat_natCast, getD_lt b _ i (by omega)]
      rw [decide_eq_true (by omega), spec_l3Ints.j1, if_pos rfl, if_pos (by omega), if_pos (by omega), if_pos (by omega), e1, e2, e3]
      rw [List.drop_eq_getElem_cons (i := i) (l := a) (by omega), List.drop_eq_getElem_cons (i := i) (l := b) (by omega), cmpI]
      by_cases h1 : a[i] < b[i]
      · rw [if_pos h1, if_pos h1]
      · rw [if_neg h1, if_neg h1]
        by_cases h2 : a[i] > b[i]
        · rw [if_pos h2, if_pos h2]
        · rw [if_neg h2, if_neg h2]
          rcases ih (i + 1) (by omega) k (by omega) with h | h
          · exact h
          · omega
    · rw [decide_eq_false (by omega), spec_l3Ints.j1, if_neg (by decide), cmpI_end (.inr (List.drop_of_length_le (by omega))), List.length_drop, List.length_drop]
      rw [if_neg (show ¬ (a.length : Int) < (b.length : Int) by omega), if_pos (show (a.length : Int) > (b.length : Int) by omega), if_neg (show ¬ a.length - i < b.length - i by omega), if_pos (show a.length - i > b.length - i by omega)]
theorem cmpS (a b : List Int) (ha : a.length ≤ 1048576) (hb : b.length ≤ 1048576) (k : Nat) (hk : 2 * a.length + 1 < k) : spec_l3Ints.f k a b = some (cmpI a b) := by
  rcases cmpSl a b ha hb a.length 0 (by omega) k hk with h | h
  · exact h
  · omega
theorem cmpFS (x : Int) (a : List Int) (y : Int) (b : List Int) (ha : a.length ≤ 1048576) (hb : b.length ≤ 1048576) (k : Nat) (hk : 2 * a.length + 1 < k) : spec_CompareFacts.f k x a y b = some (cmpF x a y b) := by
  unfold spec_CompareFacts.f cmpF
  by_cases h1 : x < y
  · rw [if_pos h1, if_pos h1]
  · rw [if_neg h1, if_neg h1]
    by_cases h2 : x > y
    · rw [if_pos h2, if_pos h2]
    · rw [if_neg h2, if_neg h2, cmpS a b ha hb k hk]
      rfl


/-! ### valid facts -/

theorem in1 (x a b : Int) : spec_l1In.f x a b = some (decide (a ≤ x ∧ x ≤ b)) := by
  unfold spec_l1In.f
  by_cases h : a ≤ x
  · rw [if_pos h]; simp [h]
  · rw [if_neg h]; simp [h]
theorem vFSl (a : Int) (vs : List Int) (hs : vs.length ≤ 1048576) (d : Nat) : ∀ (i : Nat), i + d = vs.length → ∀ k, d < k → spec_IsValidFact.l0 k i a vs = some (!(vs.drop i).any noVal) := by
  induction d with
  | zero =>
    intro i hd k hk
    obtain ⟨k, rfl, hk⟩ := fuel hk
    rw [spec_IsValidFact.l0, if_neg (by omega), List.drop_of_length_le (by omega)]
    rfl
  | succ d ih =>
    intro i hd k hk
    obtain ⟨k, rfl, hk⟩ := fuel hk
    rw [spec_IsValidFact.l0, if_pos (by omega), if_pos (by omega), in1, Option.bind_some, List.drop_eq_getElem_cons (i := i) (l := vs) (by omega), List.any_cons]
    rw [show wrap64 ((i : Int) + 1) = ((i + 1 : Nat) : Int) by rw [w64 (by omega) (by omega)]; omega, show rd vs (i : Int) = vs[i] by unfold rd; rw [Int.toNat_natCast, getD_lt vs _ i (by omega)]]
    by_cases h : 0 ≤ vs[i] ∧ vs[i] ≤ 9
    · rw [if_pos (by simpa using h), ih (i + 1) (by omega) k (by omega)]
      have : noVal vs[i] = false := by simp [noVal, h]
      rw [this, Bool.false_or]
    · rw [if_neg (by simpa using h)]
      have : noVal vs[i] = true := by
        unfold noVal
        by_cases h1 : 0 ≤ vs[i]
        · have h2 : ¬ vs[i] ≤ 9 := fun h2 => h ⟨h1, h2⟩
          simp [h2]
        · simp [h1]
      rw [this, Bool.true_or]
      rfl
theorem vFS (l : List S68) (hl : l.length ≤ 1048576) (a : Int) (vs : List Int) (hs : vs.length ≤ 1048576) (k : Nat) (hk : vs.length + 1 < k) : spec_IsValidFact.f k l a vs = some (vFact l a vs) := by
  obtain ⟨k, rfl⟩ : ∃ z, k = z + 1 := ⟨k - 1, by omega⟩
  unfold spec_IsValidFact.f spec_AreValidRelations.f vFact fits
  rw [Option.bind_some, in1, Option.bind_some, w64 (by omega) (by omega)]
  by_cases h0 : vRels l = true
  · rw [if_pos h0]
    by_cases h1 : 0 ≤ a ∧ a < (l.length : Int)
    · rw [if_pos (by simpa using (by omega : 0 ≤ a ∧ a ≤ (l.length : Int) - 1)), if_pos h1.1, if_pos h1.2, spec_IsValidFact.j0]
      by_cases h2 : (vs.length : Int) = (rd_T68 l a).f1
      · rw [if_neg (by simpa using h2), show (0 : Int) = ((0 : Nat) : Int) from rfl, vFSl a vs hs vs.length 0 (by omega) k (by omega), h0, decide_eq_true (by exact ⟨h1.1, h1.2, h2⟩)]
        simp
      · rw [if_pos (by simpa using h2), decide_eq_false (by intro h; exact h2 h.2.2)]
        simp
    · rw [if_neg (by simpa using (by omega : 0 ≤ a → ¬ a ≤ (l.length : Int) - 1)), spec_IsValidFact.j0, if_pos rfl, decide_eq_false (by intro h; exact h1 ⟨h.1, h.2.1⟩)]
      simp
  · rw [if_neg h0, spec_IsValidFact.j0, if_pos rfl]
    simp [h0]


/-! ### valid facts, the program's own question -/
theorem vFI (l : List S68) (hl : l.length ≤ 1048576) (a : Int) (vs : List Int) : impl_IsValidFact.f l a vs = some (vFact l a vs) := by
  unfold impl_IsValidFact.f impl_AreValidRelations.f vFact
  rw [Option.bind_some, fitI l (by omega), Option.bind_some]
  by_cases h0 : vRels l = true
  · rw [if_pos h0, h0]; rfl
  · rw [if_neg h0]; simp [h0]

/-! ### lists of facts and databases: what the laws' own functions on them come to -/
theorem szFSl (l : List S100) (hl : l.length ≤ maxLen) (hg : ∀ y ∈ l, y.f1.length ≤ maxLen) (d : Nat) : ∀ (i : Nat) (v : Int), i + d = l.length → 0 ≤ v → v ≤ 1048576 → ∃ r, r ≤ v ∧ -1 ≤ r ∧ (0 ≤ r → ∀ j, i ≤ j → j < l.length → ((l.getD j z100).f1.length : Int) ≤ v) ∧ ∀ k, d < k → laws_szFactS.l0 k l v i = some r := by
  unfold maxLen at hl
  induction d with
  | zero =>
    intro i v hd hv _
    refine ⟨v, by omega, by omega, fun _ j h1 h2 => by omega, fun k hk => ?_⟩
    obtain ⟨k, rfl, hk⟩ := fuel hk
    rw [laws_szFactS.l0, if_neg (by omega)]
  | succ d ih =>
    intro i v hd hv hv1
    obtain ⟨r, hr, h1, h2, h3⟩ := szF (rd_T100 l i).f0 (rd_T100 l i).f1 v (hg _ (getD_mem l _ _ (by omega))) hv hv1
    by_cases hneg : r < 0
    · refine ⟨-1, by omega, by omega, fun h => absurd h (by decide), fun k hk => ?_⟩
      obtain ⟨k, rfl, hk⟩ := fuel hk
      rw [laws_szFactS.l0, if_pos (by omega), if_pos (by omega), hr, Option.bind_some, if_pos hneg]
    · obtain ⟨r', g1, g2, g3, g4⟩ := ih (i + 1) r (by omega) (by omega) (by omega)
      refine ⟨r', by omega, g2, fun h j j1 j2 => ?_, fun k hk => ?_⟩
      · by_cases hj : j = i
        · subst hj
          have := h3 (by omega)
          unfold rd_T100 at this
          rw [Int.toNat_natCast] at this
          exact this
        · exact Int.le_trans (g3 h j (by omega) j2) h1
      obtain ⟨k, rfl, hk⟩ := fuel hk
      rw [laws_szFactS.l0, if_pos (by omega), if_pos (by omega), hr, Option.bind_some, if_neg hneg, show wrap64 ((i : Int) + 1) = ((i + 1 : Nat) : Int) by rw [w64 (by omega) (by omega)]; omega]
      exact g4 k (by omega)
theorem szFS (l : List S100) (hl : l.length ≤ maxLen) (hg : ∀ y ∈ l, y.f1.length ≤ maxLen) (v : Int) (hv : 0 ≤ v) (hv1 : v ≤ 1048576) : ∃ r, r ≤ v ∧ -1 ≤ r ∧ (0 ≤ r → (l.length : Int) ≤ v ∧ ∀ y ∈ l, (y.f1.length : Int) ≤ v) ∧ ∀ k, l.length < k → laws_szFactS.f k l v = some r := by
  have hl' := hl
  unfold maxLen at hl'
  unfold laws_szFactS.f
  rw [w64 (by omega) (by omega)]
  by_cases h : v - (l.length : Int) < 0
  · exact ⟨-1, by omega, by omega, fun h => absurd h (by decide), fun k _ => if_pos h⟩
  · obtain ⟨r, h1, h2, h3, h4⟩ := szFSl l hl hg l.length 0 (v - l.length) (by omega) (by omega) (by omega)
    refine ⟨r, by omega, h2, fun h => ⟨by omega, fun y hy => ?_⟩, fun k hk => by rw [if_neg ‹_›]; exact h4 k hk⟩
    obtain ⟨j, hj, rfl⟩ := List.getElem_of_mem hy
    have := h3 h j (by omega) hj
    rw [getD_lt l _ j hj] at this
    omega
theorem szD (l : List S98) (fs : List S100) (hl : l.length ≤ maxLen) (hg : ∀ y ∈ l, y.f0.size ≤ maxLen) (hf : fs.length ≤ maxLen) (hh : ∀ y ∈ fs, y.f1.length ≤ maxLen) (v : Int) (hv : 0 ≤ v) (hv1 : v ≤ 1048576) :
    ∃ r, r ≤ v ∧ -1 ≤ r ∧ (0 ≤ r → (l.length : Int) ≤ v ∧ (fs.length : Int) ≤ v ∧ ∀ y ∈ fs, (y.f1.length : Int) ≤ v) ∧ ∀ k, l.length < k → fs.length < k → laws_szDatabase.f k l fs v = some r := by
  obtain ⟨r, h1, h2, h3, h4⟩ := szRS l hl hg v hv hv1
  by_cases hr : r < 0
  · exact ⟨-1, by omega, by omega, fun h => absurd h (by decide), fun k hk _ => by unfold laws_szDatabase.f; rw [h4 k hk, Option.bind_some, if_pos hr]⟩
  obtain ⟨r', g1, g2, g3, g4⟩ := szFS fs hf hh r (by omega) (by omega)
  by_cases hr' : r' < 0
  · exact ⟨-1, by omega, by omega, fun h => absurd h (by decide), fun k hk hk' => by unfold laws_szDatabase.f; rw [h4 k hk, Option.bind_some, if_neg hr, g4 k hk', Option.bind_some, if_pos hr']⟩
  · refine ⟨r', by omega, by omega, fun _ => ?_, fun k hk hk' => by unfold laws_szDatabase.f; rw [h4 k hk, Option.bind_some, if_neg hr, g4 k hk', Option.bind_some, if_neg hr']⟩
    obtain ⟨e1, e2⟩ := g3 (by omega)
    exact ⟨h3 (by omega), by omega, fun y hy => Int.le_trans (e2 y hy) h1⟩
theorem toFSl (l : List S100) (hl : l.length ≤ 1048576) (hg : ∀ y ∈ l, y.f1.length ≤ 1048576) (d : Nat) : ∀ (i : Nat) (xs : List S39), i + d = l.length → xs.length = l.length → xs.take i = (l.take i).map cvF → ∀ k, d + 1048577 < k → laws_toFactS.l0 k l xs i = some (l.map cvF) := by
  induction d with
  | zero =>
    intro i xs hd hx ht k hk
    obtain ⟨k, rfl, hk⟩ := fuel hk
    rw [laws_toFactS.l0, if_neg (by omega)]
    rw [List.take_of_length_le (by omega), List.take_of_length_le (by omega)] at ht
    rw [ht]
  | succ d ih =>
    intro i xs hd hx ht k hk
    obtain ⟨k, rfl, hk⟩ := fuel hk
    have hy := hg _ (getD_mem l z100 i (by omega))
    rw [laws_toFactS.l0, if_pos (by omega), if_pos (by omega)]
    unfold rd_T100
    rw [Int.toNat_natCast, toF _ _ hy k (by omega), Option.bind_some, if_pos (by omega), show wrap64 ((i : Int) + 1) = ((i + 1 : Nat) : Int) by rw [w64 (by omega) (by omega)]; omega]
    refine ih (i + 1) _ (by omega) (by simpa using hx) ?_ k (by omega)
    rw [take_set_succ _ _ _ (by omega), take_map_succ cvF z100 l i (by omega), ht]
    rfl
theorem toFS (l : List S100) (hl : l.length ≤ 1048576) (hg : ∀ y ∈ l, y.f1.length ≤ 1048576) (k : Nat) (hk : l.length + 1048577 < k) : laws_toFactS.f k l = some (l.map cvF) := by
  unfold laws_toFactS.f
  rw [if_pos (by omega), Int.toNat_natCast, if_pos (by omega)]
  exact toFSl l hl hg l.length 0 _ (by omega) (by simp) (by simp) k hk
theorem toD (l : List S98) (fs : List S100) (hl : l.length ≤ 1048576) (hf : fs.length ≤ 1048576) (hg : ∀ y ∈ fs, y.f1.length ≤ 1048576) (k : Nat) (hk : 2097154 < k) : laws_toDatabase.f k l fs = some (l.map cvR, fs.map cvF) := by
  unfold laws_toDatabase.f
  rw [toRS l hl k (by omega), Option.bind_some, toFS fs hf hg k (by omega), Option.bind_some]
theorem eqFSl (l : List S39) (hl : l.length ≤ 1048576) (hg : ∀ y ∈ l, y.f1.length ≤ 1048576) (d : Nat) : ∀ (i : Nat), i + d = l.length → ∀ k, d + 1048577 < k → laws_eqFactS.l0 k l l i = some true := by
  induction d with
  | zero =>
    intro i hd k hk
    obtain ⟨k, rfl, hk⟩ := fuel hk
    rw [laws_eqFactS.l0, if_neg (by omega)]
  | succ d ih =>
    intro i hd k hk
    obtain ⟨k, rfl, hk⟩ := fuel hk
    have hy := hg _ (getD_mem l z39 i (by omega))
    rw [laws_eqFactS.l0, if_pos (by omega), if_pos (by omega), if_pos (by omega)]
    unfold rd_T39
    rw [Int.toNat_natCast, eqF _ _ hy k (by omega), Option.bind_some, if_pos rfl, show wrap64 ((i : Int) + 1) = ((i + 1 : Nat) : Int) by rw [w64 (by omega) (by omega)]; omega]
    exact ih (i + 1) (by omega) k (by omega)
theorem eqFS (l : List S39) (hl : l.length ≤ 1048576) (hg : ∀ y ∈ l, y.f1.length ≤ 1048576) (k : Nat) (hk : l.length + 1048577 < k) : laws_eqFactS.f k l l = some true := by
  unfold laws_eqFactS.f
  rw [if_pos rfl]
  exact eqFSl l hl hg l.length 0 (by omega) k hk
theorem eqD (l : List S68) (fs : List S39) (hl : l.length ≤ 1048576) (hf : fs.length ≤ 1048576) (hg : ∀ y ∈ fs, y.f1.length ≤ 1048576) (k : Nat) (hk : 2097154 < k) : laws_eqDatabase.f k l fs l fs = some true := by
  unfold laws_eqDatabase.f
  rw [eqRS l hl k (by omega), Option.bind_some, if_pos rfl, eqFS fs hf hg k (by omega), Option.bind_some, if_pos rfl]
theorem cvFg (fs : List S100) (hg : ∀ y ∈ fs, y.f1.length ≤ 1048576) : ∀ y ∈ fs.map cvF, y.f1.length ≤ 1048576 := by
  intro y hy
  obtain ⟨x, hx, rfl⟩ := List.mem_map.1 hy
  exact hg x hx

/-! ### valid databases -/

theorem vDSl (l : List S68) (hl : l.length ≤ 1048576) (fs : List S39) (hf : fs.length ≤ 1048576) (hg : ∀ y ∈ fs, y.f1.length ≤ 1048576) (d : Nat) : ∀ (i : Nat), i + d = fs.length → ∀ k, d + 4000000 < k → spec_IsValidDatabase.l0 k i l fs = some (vRels l && decide (fs.length ≤ 14) && okFrom l fs d i) := by
  induction d with
  | zero =>
    intro i hd k hk
    obtain ⟨k, rfl, hk⟩ := fuel hk
    rw [spec_IsValidDatabase.l0, if_neg (by omega)]
    unfold spec_AreValidRelations.f
    rw [Option.bind_some]
    by_cases h : vRels l = true
    · rw [if_pos h, h, okFrom]
      simp only [Bool.true_and, Bool.and_true]
      congr 2
      exact propext (by omega)
    · rw [if_neg h]; simp [h]
  | succ d ih =>
    intro i hd k hk
    obtain ⟨k, rfl, hk⟩ := fuel hk
    have hy := hg _ (getD_mem fs z39 i (by omega))
    rw [spec_IsValidDatabase.l0, if_pos (by omega), if_pos (by omega)]
    unfold rd_T39
    rw [Int.toNat_natCast, vFS l hl _ _ hy k (by omega), Option.bind_some, okFrom]
    unfold vFact
    by_cases h0 : vRels l = true
    · by_cases h1 : fits l (fs.getD i z39).f0 (fs.getD i z39).f1 = true
      · rw [h0, h1, Bool.true_and, if_pos rfl]
        by_cases hi : i = 0
        · rw [if_neg (by omega), show wrap64 ((i : Int) + 1) = ((i + 1 : Nat) : Int) by rw [w64 (by omega) (by omega)]; omega, ih (i + 1) (by omega) k (by omega), h0, decide_eq_true hi]
          simp
        · have hy' := hg _ (getD_mem fs z39 (i - 1) (by omega))
          have ew : wrap64 ((i : Int) - 1) = ((i - 1 : Nat) : Int) := by rw [w64 (by omega) (by omega)]; omega
          rw [if_pos (by omega), ew, if_pos (by omega), if_pos (by omega), Int.toNat_natCast, cmpFS _ _ _ _ hy' hy k (by omega), Option.bind_some, decide_eq_false hi]
          by_cases hc : cmpF (fs.getD (i - 1) z39).f0 (fs.getD (i - 1) z39).f1 (fs.getD i z39).f0 (fs.getD i z39).f1 < 0
          · rw [if_neg (by omega), show wrap64 ((i : Int) + 1) = ((i + 1 : Nat) : Int) by rw [w64 (by omega) (by omega)]; omega, ih (i + 1) (by omega) k (by omega), h0, decide_eq_true hc]
            simp
          · rw [if_pos (by omega), decide_eq_false hc]
            simp
      · rw [Bool.eq_false_iff.2 h1, Bool.and_false, if_neg (by decide)]
        simp
    · rw [if_neg (by simp [h0])]
      simp [h0]
theorem vDS (l : List S68) (hl : l.length ≤ 1048576) (fs : List S39) (hf : fs.length ≤ 1048576) (hg : ∀ y ∈ fs, y.f1.length ≤ 1048576) (k : Nat) (hk : 6000000 < k) : spec_IsValidDatabase.f k l fs = some (vDb l fs) := by
  unfold spec_IsValidDatabase.f vDb
  exact vDSl l hl fs hf hg fs.length 0 (by omega) k (by omega)


theorem inB_iff (x a b : Int) : inB x a b = true ↔ a ≤ x ∧ x ≤ b := by unfold inB; exact decide_eq_true_iff
theorem vRelsFrom_at (l : List S68) : ∀ (d i : Nat), vRelsFrom l d i = true → ∀ j, i ≤ j → j < i + d → vRel (l.getD j z68) = true
  | 0, i, _, j, h1, h2 => by omega
  | d + 1, i, h, j, h1, h2 => by
    rw [vRelsFrom, Bool.and_eq_true, Bool.and_eq_true] at h
    by_cases hj : j = i
    · subst hj
      exact h.1.1
    · exact vRelsFrom_at l d (i + 1) h.2 j (by omega) (by omega)
theorem vRels_at (l : List S68) (h : vRels l = true) (a : Int) (h0 : 0 ≤ a) (h1 : a < (l.length : Int)) : vRel (rd_T68 l a) = true := by
  unfold rd_T68
  exact vRelsFrom_at l l.length 0 h a.toNat (by omega) (by omega)
theorem fits_iff (l : List S68) (a : Int) (vs : List Int) : fits l a vs = true ↔ (0 ≤ a ∧ a < (l.length : Int) ∧ (vs.length : Int) = (rd_T68 l a).f1) ∧ vs.any noVal = false := by
  unfold fits
  rw [Bool.and_eq_true, decide_eq_true_iff, Bool.not_eq_true']
theorem key_ok (l : List S68) (hr : vRels l = true) (a : Int) (vs : List Int) (h : fits l a vs = true) :
    0 ≤ a ∧ a < (l.length : Int) ∧ 0 ≤ (rd_T68 l a).f2 ∧ (rd_T68 l a).f2 ≤ (vs.length : Int) ∧ (vs.length : Int) = (rd_T68 l a).f1 ∧ vs.length ≤ 3 := by
  obtain ⟨⟨h0, h1, h2⟩, _⟩ := (fits_iff l a vs).1 h
  have hv := vRels_at l hr a h0 h1
  unfold vRel at hv
  rw [Bool.and_eq_true, Bool.and_eq_true, inB_iff, inB_iff] at hv
  exact ⟨h0, h1, by omega, by omega, h2, by omega⟩

/-- What FormatInt lays for a number's magnitude: nothing for 0, else its digits. -/
def dig (u : Nat) : List UInt8 := if u = 0 then [] else Lib.decDigits u
theorem dig_step (u : Nat) (h : 0 < u) : dig u = dig (u / 10) ++ [UInt8.ofNat (48 + u % 10)] := by
  unfold dig
  rw [if_neg (by omega), Lib.decDigits]
  by_cases c : u < 10
  · rw [dif_pos c, if_pos (by omega), List.nil_append, Nat.mod_eq_of_lt c]
  · rw [dif_neg c, if_neg (by omega)]
theorem sn_cons (z : Int) (l : List UInt8) : strOfNums [z] ++ (⟨l.toArray⟩ : ByteArray) = ⟨(UInt8.ofNat z.toNat :: l).toArray⟩ := by
  apply ByteArray.ext
  apply Array.ext'
  rw [ByteArray.data_append, Array.toList_append, sn_toList]
  simp
theorem sz_mk (l : List UInt8) : (⟨l.toArray⟩ : ByteArray).size = l.length := by
  rw [show (⟨l.toArray⟩ : ByteArray).size = (⟨l.toArray⟩ : ByteArray).data.size from rfl]; simp
def fin (neg : Bool) (l : List UInt8) : ByteArray := if neg = true then ⟨(45 :: l).toArray⟩ else ⟨l.toArray⟩
theorem fil (d : Nat) : ∀ (u : Nat) (x : Int) (neg : Bool) (l : List UInt8), (x = u ∨ x = -(u : Int)) → u < 10 ^ d → u ≤ 9223372036854775808 → l.length + d ≤ 1000 → ∀ k, d < k → spec_FormatInt.l0 k x ⟨l.toArray⟩ neg = some (fin neg (dig u ++ l)) := by
  induction d with
  | zero =>
    intro u x neg l hx hu _ hl k hk
    obtain ⟨k, rfl, hk⟩ := fuel hk
    rw [Nat.pow_zero] at hu
    rw [spec_FormatInt.l0, if_pos (by omega), show u = 0 by omega]
    unfold fin dig
    rw [if_pos rfl, List.nil_append]
    by_cases h : neg = true
    · rw [if_pos h, if_pos h, if_pos (by rw [sz_mk]; omega)]
      congr 1
    · rw [if_neg h, if_neg h]
  | succ d ih =>
    intro u x neg l hx hu hb hl k hk
    obtain ⟨k, rfl, hk⟩ := fuel hk
    by_cases h0 : u = 0
    · rw [spec_FormatInt.l0, if_pos (by omega), h0]
      unfold fin dig
      rw [if_pos rfl, List.nil_append]
      by_cases h : neg = true
      · rw [if_pos h, if_pos h, if_pos (by rw [sz_mk]; omega)]
        congr 1
      · rw [if_neg h, if_neg h]
    · have hm : Int.tmod x 10 = (u % 10 : Nat) ∨ Int.tmod x 10 = -((u % 10 : Nat) : Int) := by
        rcases hx with rfl | rfl
        · left; rw [Int.tmod_eq_emod_of_nonneg (by omega)]; omega
        · right; rw [Int.neg_tmod, Int.tmod_eq_emod_of_nonneg (by omega)]; omega
      have hd : Int.tdiv x 10 = (u / 10 : Nat) ∨ Int.tdiv x 10 = -((u / 10 : Nat) : Int) := by
        rcases hx with rfl | rfl
        · left; rw [Int.tdiv_eq_ediv_of_nonneg (by omega)]; omega
        · right; rw [Int.neg_tdiv, Int.tdiv_eq_ediv_of_nonneg (by omega)]; omega
      have h1 : (strOfNums [((48 + u % 10 : Nat) : Int)]).size = 1 := by rw [sn_size]; rfl
      have hs := ih (u / 10) (Int.tdiv x 10) neg (UInt8.ofNat (48 + u % 10) :: l) hd (by rw [Nat.pow_succ] at hu; omega) (by omega) (by simp only [List.length_cons]; omega) k (by omega)
      have hz : wrap64 (Int.tdiv x 10) = Int.tdiv x 10 := w64 (by omega) (by omega)
      have hn : ∀ z : Int, z = ((u % 10 : Nat) : Int) → wrap64 (48 + z) % 256 = ((48 + u % 10 : Nat) : Int) := by
        intro z e
        rw [w64 (by omega) (by omega)]
        omega
      have hfin : spec_FormatInt.l0 k (wrap64 (Int.tdiv x 10)) (strOfNums [((48 + u % 10 : Nat) : Int)] ++ ⟨l.toArray⟩) neg = some (fin neg (dig u ++ l)) := by
        rw [hz, sn_cons, Int.toNat_natCast, hs, dig_step u (by omega), List.append_assoc]
        rfl
      rw [spec_FormatInt.l0, if_neg (by omega)]
      by_cases hc : Int.tmod x 10 < 0
      · rw [if_pos hc, Option.bind_some, hn _ (by rw [w64 (by omega) (by omega)]; omega), if_pos (by rw [h1, sz_mk]; omega)]
        exact hfin
      · rw [if_neg hc, Option.bind_some, hn _ (by omega), if_pos (by rw [h1, sz_mk]; omega)]
        exact hfin
theorem fiS (n : Int) (h0 : -9223372036854775808 ≤ n) (h1 : n ≤ 9223372036854775807) (k : Nat) (hk : 30 < k) : spec_FormatInt.f k n = some ⟨(Lib.itoa n).toArray⟩ := by
  unfold spec_FormatInt.f
  by_cases h : n = 0
  · rw [if_pos h, h]
    unfold Lib.itoa
    rw [if_neg (by omega), show (0 : Int).toNat = 0 from rfl, Lib.decDigits, dif_pos (by omega)]
    rfl
  · rw [if_neg h]
    have hp : (10 : Nat) ^ 20 = 100000000000000000000 := by decide
    have := fil 20 n.natAbs n (decide (n < 0)) [] (by omega) (by omega) (by omega) (by simp) k (by omega)
    rw [show (⟨#[]⟩ : ByteArray) = ⟨([] : List UInt8).toArray⟩ from rfl, this, List.append_nil]
    unfold fin dig Lib.itoa
    rw [if_neg (show ¬ n.natAbs = 0 by omega)]
    by_cases hn : n < 0
    · rw [if_pos (decide_eq_true hn), if_pos hn]
    · rw [if_neg (by simpa using hn), if_neg hn, show n.natAbs = n.toNat by omega]

theorem vRel_sz (x : S68) (h : vRel x = true) : x.f0.size ≤ 1048576 := by
  unfold vRel at h
  rw [Bool.and_eq_true, Bool.and_eq_true, decide_eq_true_iff] at h
  have := h.1.1.1
  omega
theorem fiI (n : Int) (h0 : -9223372036854775808 ≤ n) (h1 : n ≤ 9223372036854775807) : impl_FormatInt.f n = some ⟨(Lib.itoa n).toArray⟩ := by
  unfold impl_FormatInt.f strconv_Itoa_92.f
  rw [if_pos h0, if_pos h1, Option.bind_some]
def numB (v : Int) : ByteArray := ⟨(Lib.itoa v).toArray⟩
theorem numB_sz (v : Int) (h0 : -9223372036854775808 ≤ v) (h1 : v ≤ 9223372036854775807) : (numB v).size ≤ 21 := by
  unfold numB; rw [sz_mk]; exact Lib.itoa_length_le v h0 h1

def ffs (f2 : Nat) : Nat → List Int → ByteArray → ByteArray
  | _, [], s => s
  | i, v :: vs, s => ffs f2 (i + 1) vs ((if i = f2 then s ++ (⟨#[124]⟩ : ByteArray) else s) ++ numB v)
theorem ffSl (l : List S68) (a : Int) (ha : 0 ≤ a) (ha' : a < (l.length : Int)) (f2 : Nat) (h2 : (rd_T68 l a).f2 = f2) (vs : List Int) (hn : vs.length ≤ 3) (hb : ∀ v ∈ vs, -9223372036854775808 ≤ v ∧ v ≤ 9223372036854775807) (d : Nat) : ∀ (i : Nat) (s : ByteArray), i + d = vs.length → s.size + 30 * d ≤ 1000000000 → ∀ k, d + 40 < k → spec_FormatFact.l0 k l s i a vs = some (ffs f2 i (vs.drop i) s) := by
  induction d with
  | zero =>
    intro i s hd _ k hk
    obtain ⟨k, rfl, hk⟩ := fuel hk
    rw [spec_FormatFact.l0, if_neg (by omega), List.drop_eq_nil_of_le (by omega), ffs]
  | succ d ih =>
    intro i s hd hs k hk
    obtain ⟨k, rfl, hk⟩ := fuel hk
    have hv := hb vs[i] (List.getElem_mem _)
    have hz := numB_sz vs[i] hv.1 hv.2
    have hr : rd vs (i : Int) = vs[i] := by unfold rd; rw [Int.toNat_natCast, getD_lt _ _ i (by omega)]
    have l1 : (⟨#[124]⟩ : ByteArray).size = 1 := rfl
    have hf : spec_FormatInt.f k vs[i] = some (numB vs[i]) := fiS _ hv.1 hv.2 k (by omega)
    rw [spec_FormatFact.l0, if_pos (by omega), if_pos ha, if_pos ha', h2, hr, hf, List.drop_eq_getElem_cons (by omega), ffs, show wrap64 ((i : Int) + 1) = ((i + 1 : Nat) : Int) by rw [w64 (by omega) (by omega)]; omega]
    simp only [Option.bind_some]
    by_cases c : i = f2
    · rw [if_pos (by omega), if_pos (by omega), if_pos (by omega), if_pos (by rw [ByteArray.size_append]; omega), if_pos c]
      exact ih (i + 1) _ (by omega) (by rw [ByteArray.size_append, ByteArray.size_append]; omega) k (by omega)
    · rw [if_neg (by omega), if_pos (by omega), if_pos (by omega), if_neg c]
      exact ih (i + 1) _ (by omega) (by rw [ByteArray.size_append]; omega) k (by omega)
def bar (xs : List ByteArray) (f2 : Nat) : ByteArray := if (f2 : Int) < (xs.length : Int) then (⟨(Shelf.cat_ (xs.take f2)).toArray⟩ : ByteArray) ++ ((⟨#[124]⟩ : ByteArray) ++ (⟨(Shelf.cat_ (xs.drop f2)).toArray⟩ : ByteArray)) else (⟨(Shelf.cat_ (xs.take f2)).toArray⟩ : ByteArray)
theorem cat_sz : ∀ xs : List ByteArray, (∀ x ∈ xs, x.size ≤ 21) → (Shelf.cat_ xs).length ≤ 21 * xs.length
  | [], _ => by rw [Shelf.cat_]; simp
  | x :: xs, h => by
    have := cat_sz xs fun y hy => h y (List.mem_cons_of_mem _ hy)
    have hx := h x (List.mem_cons_self ..)
    have e : x.toList.length = x.size := by rw [tl_eq, Array.length_toList]; rfl
    rw [Shelf.cat_, List.length_append, List.length_cons, e]
    omega
theorem bar_sz (xs : List ByteArray) (f2 : Nat) (hn : xs.length ≤ 3) (h : ∀ x ∈ xs, x.size ≤ 21) : (bar xs f2).size ≤ 1000 := by
  have h1 := cat_sz xs h
  have h2 := Shelf.cat_len xs f2
  have l1 : (⟨#[124]⟩ : ByteArray).size = 1 := rfl
  unfold bar
  split
  · rw [ByteArray.size_append, ByteArray.size_append, sz_mk, l1, sz_mk]; omega
  · rw [sz_mk]; omega
theorem ffIl (l : List S68) (a : Int) (ha : 0 ≤ a) (ha' : a < (l.length : Int)) (f2 : Nat) (h2 : (rd_T68 l a).f2 = f2) (vs : List Int) (hn : vs.length ≤ 3) (hf : f2 ≤ vs.length) (hsz : (rd_T68 l a).f0.size ≤ 1048576) (hb : ∀ v ∈ vs, -9223372036854775808 ≤ v ∧ v ≤ 9223372036854775807) (d : Nat) : ∀ (i : Nat), i + d = vs.length → ∀ k, d < k → impl_FormatFact.l0 k l ((vs.take i).map numB) vs vs.length i a vs = some ((rd_T68 l a).f0 ++ bar (vs.map numB) f2) := by
  have hm : ∀ x ∈ vs.map numB, x.size ≤ 21 := by
    intro x hx
    obtain ⟨v, hv, rfl⟩ := List.mem_map.1 hx
    exact numB_sz v (hb v hv).1 (hb v hv).2
  have hml : (vs.map numB).length = vs.length := List.length_map ..
  induction d with
  | zero =>
    intro i hd k hk
    obtain ⟨k, rfl, hk⟩ := fuel hk
    have hc := cat_sz _ hm
    have hbz := bar_sz (vs.map numB) f2 (by omega) hm
    have hbr : impl_barred.f (vs.map numB) f2 = some (bar (vs.map numB) f2) := by
      unfold impl_barred.f bar
      rw [if_pos (by omega), if_pos (by omega), Int.toNat_natCast]
    rw [impl_FormatFact.l0, if_neg (by omega), if_pos ha, if_pos ha', h2, List.take_of_length_le (by omega), hbr, Option.bind_some, if_pos (by omega)]
  | succ d ih =>
    intro i hd k hk
    obtain ⟨k, rfl, hk⟩ := fuel hk
    have hv := hb vs[i] (List.getElem_mem _)
    have hr : rd vs (i : Int) = vs[i] := by unfold rd; rw [Int.toNat_natCast, getD_lt _ _ i (by omega)]
    have hfi : impl_FormatInt.f vs[i] = some (numB vs[i]) := fiI _ hv.1 hv.2
    rw [impl_FormatFact.l0, if_pos (by omega), if_pos (by omega), if_pos (by omega), hr, hfi, Option.bind_some, if_pos (by rw [List.length_map, List.length_take]; omega), show wrap64 ((i : Int) + 1) = ((i + 1 : Nat) : Int) by rw [w64 (by omega) (by omega)]; omega, show (vs.take i).map numB ++ [numB vs[i]] = (vs.take (i + 1)).map numB by rw [List.take_succ_eq_append_getElem (by omega), List.map_append]; rfl]
    exact ih (i + 1) (by omega) k (by omega)
theorem ba_app (s : ByteArray) (l m : List UInt8) : s ++ (⟨(l ++ m).toArray⟩ : ByteArray) = (s ++ (⟨l.toArray⟩ : ByteArray)) ++ (⟨m.toArray⟩ : ByteArray) := by
  apply ByteArray.ext
  apply Array.ext'
  simp [ByteArray.data_append]
theorem ba_num (s x : ByteArray) (l : List UInt8) : s ++ (⟨(x.toList ++ l).toArray⟩ : ByteArray) = (s ++ x) ++ (⟨l.toArray⟩ : ByteArray) := by
  rw [ba_app, tl_eq]
theorem ffs_past (f2 : Nat) : ∀ (vs : List Int) (i : Nat) (s : ByteArray), f2 < i → ffs f2 i vs s = s ++ (⟨(Shelf.cat_ (vs.map numB)).toArray⟩ : ByteArray)
  | [], i, s, _ => by
    rw [ffs, List.map_nil, Shelf.cat_]
    apply ByteArray.ext; apply Array.ext'; simp [ByteArray.data_append]
  | v :: vs, i, s, h => by rw [ffs, if_neg (by omega), ffs_past f2 vs (i + 1) _ (by omega), List.map_cons, Shelf.cat_, ba_num]
theorem ffs_bar : ∀ (vs : List Int) (i f2 : Nat) (s : ByteArray), i ≤ f2 → ffs f2 i vs s = s ++ bar (vs.map numB) (f2 - i)
  | [], i, f2, s, h => by
    rw [ffs, List.map_nil]
    unfold bar
    rw [if_neg (by simp), List.take_nil, Shelf.cat_]
    apply ByteArray.ext; apply Array.ext'; simp [ByteArray.data_append]
  | v :: vs, i, f2, s, h => by
    rw [ffs]
    by_cases c : i = f2
    · rw [if_pos c, ffs_past f2 vs (i + 1) _ (by omega), show f2 - i = 0 by omega]
      unfold bar
      rw [if_pos (by simp), List.take_zero, List.drop_zero, List.map_cons, Shelf.cat_, Shelf.cat_, tl_eq]
      apply ByteArray.ext; apply Array.ext'; simp [ByteArray.data_append]
    · rw [if_neg c, ffs_bar vs (i + 1) f2 _ (by omega), show f2 - i = (f2 - (i + 1)) + 1 by omega]
      unfold bar
      rw [List.map_cons, List.take_succ_cons, List.drop_succ_cons, List.length_cons, Shelf.cat_, tl_eq]
      by_cases q : ((f2 - (i + 1) : Nat) : Int) < ((vs.map numB).length : Int)
      · rw [if_pos q, if_pos (by push_cast; omega)]
        apply ByteArray.ext; apply Array.ext'; simp [ByteArray.data_append]
      · rw [if_neg q, if_neg (by push_cast; omega)]
        apply ByteArray.ext; apply Array.ext'; simp [ByteArray.data_append]
theorem ffB (l : List S68) (hl : l.length ≤ 1048576) (a : Int) (vs : List Int) (hs : vs.length ≤ 1048576) (hb : ∀ v ∈ vs, -9223372036854775808 ≤ v ∧ v ≤ 9223372036854775807) (k : Nat) (hk : 2000000 < k) : ∃ S, spec_FormatFact.f k l a vs = some S ∧ impl_FormatFact.f k l a vs = some S := by
  unfold spec_FormatFact.f impl_FormatFact.f
  rw [vFS l hl a vs hs k (by omega), vFI l hl a vs, Option.bind_some, Option.bind_some]
  by_cases h : vFact l a vs = true
  · have hv := h
    unfold vFact at hv
    rw [Bool.and_eq_true] at hv
    obtain ⟨h0, h1, h2, h3, h4, h5⟩ := key_ok l hv.1 a vs hv.2
    have hn := vRels_at l hv.1 a h0 h1
    have hsz : (rd_T68 l a).f0.size ≤ 1048576 := vRel_sz _ hn
    rw [if_pos h, if_pos h, if_pos h0, if_pos h1]
    have e1 := ffSl l a h0 h1 (rd_T68 l a).f2.toNat (by omega) vs h5 hb vs.length 0 (rd_T68 l a).f0 (by omega) (by omega) k (by omega)
    have e2 := ffIl l a h0 h1 (rd_T68 l a).f2.toNat (by omega) vs h5 (by omega) hsz hb vs.length 0 (by omega) k (by omega)
    rw [List.drop_zero, ffs_bar vs 0 _ _ (by omega), Nat.sub_zero] at e1
    exact ⟨_, e1, e2⟩
  · rw [if_neg h, if_neg h]
    exact ⟨_, rfl, rfl⟩

/-! ### lists of places, and the facts at them -/
def ascFrom (xs : List Int) (n : Int) : Nat → Nat → Bool
  | 0, _ => true
  | d + 1, i => decide (0 ≤ xs.getD i 0 ∧ xs.getD i 0 ≤ n - 1) && (decide (i = 0) || decide (xs.getD (i - 1) 0 < xs.getD i 0)) && ascFrom xs n d (i + 1)
def asc (xs : List Int) (n : Int) : Bool := ascFrom xs n xs.length 0
def sel (fs : List S39) (xs : List Int) : List S39 := xs.map fun i => fs.getD i.toNat z39
theorem rdD (xs : List Int) (i : Nat) : rd xs (i : Int) = xs.getD i 0 := by unfold rd; rw [Int.toNat_natCast]
theorem ascFrom_at (xs : List Int) (n : Int) : ∀ (d i : Nat), ascFrom xs n d i = true → ∀ j, i ≤ j → j < i + d → (0 ≤ xs.getD j 0 ∧ xs.getD j 0 ≤ n - 1) ∧ (j = 0 ∨ xs.getD (j - 1) 0 < xs.getD j 0)
  | 0, i, _, j, h1, h2 => by omega
  | d + 1, i, h, j, h1, h2 => by
    rw [ascFrom, Bool.and_eq_true, Bool.and_eq_true, Bool.or_eq_true, decide_eq_true_iff, decide_eq_true_iff, decide_eq_true_iff] at h
    by_cases hj : j = i
    · subst hj
      exact h.1
    · exact ascFrom_at xs n d (i + 1) h.2 j (by omega) (by omega)
theorem asc_at (xs : List Int) (n : Int) (h : asc xs n = true) (j : Nat) (hj : j < xs.length) : (0 ≤ xs.getD j 0 ∧ xs.getD j 0 ≤ n - 1) ∧ (j = 0 ∨ xs.getD (j - 1) 0 < xs.getD j 0) :=
  ascFrom_at xs n xs.length 0 h j (by omega) (by omega)
theorem sel_g (fs : List S39) (hg : ∀ y ∈ fs, y.f1.length ≤ 1048576) (xs : List Int) : ∀ y ∈ sel fs xs, y.f1.length ≤ 1048576 := by
  intro y hy
  obtain ⟨i, _, rfl⟩ := List.mem_map.1 hy
  by_cases h : i.toNat < fs.length
  · exact hg _ (getD_mem fs z39 _ h)
  · rw [List.getD_eq_getElem?_getD, List.getElem?_eq_none (by omega)]
    show (z39).f1.length ≤ _
    simp [z39]
theorem sel_len (fs : List S39) (xs : List Int) : (sel fs xs).length = xs.length := by unfold sel; simp
theorem sel_take (fs : List S39) (xs : List Int) (i : Nat) (h : i < xs.length) : sel fs (xs.take (i + 1)) = sel fs (xs.take i) ++ [fs.getD (xs.getD i 0).toNat z39] := by
  unfold sel
  rw [List.take_succ_eq_append_getElem h, List.map_append, getD_lt xs 0 i h]
  rfl

theorem ascSl (l : List S68) (fs : List S39) (hf : fs.length ≤ 1048576) (xs : List Int) (hx : xs.length ≤ 1048576) (d : Nat) : ∀ (i : Nat), i + d = xs.length → ∀ k, d < k → spec_l4Set.l0 k xs i l fs = some (ascFrom xs fs.length d i) := by
  induction d with
  | zero =>
    intro i hd k hk
    obtain ⟨k, rfl, hk⟩ := fuel hk
    rw [spec_l4Set.l0, if_neg (by omega), ascFrom]
  | succ d ih =>
    intro i hd k hk
    obtain ⟨k, rfl, hk⟩ := fuel hk
    have e1 : wrap64 ((i : Int) + 1) = ((i + 1 : Nat) : Int) := by rw [w64 (by omega) (by omega)]; omega
    rw [spec_l4Set.l0, if_pos (by omega), if_pos (by omega), in1, Option.bind_some, w64 (by omega) (by omega), rdD, ascFrom, e1]
    by_cases h : 0 ≤ xs.getD i 0 ∧ xs.getD i 0 ≤ (fs.length : Int) - 1
    · rw [decide_eq_true h, if_pos rfl]
      by_cases hi : i = 0
      · rw [if_neg (by omega), ih (i + 1) (by omega) k (by omega), decide_eq_true hi]
        simp
      · rw [if_pos (by omega), show wrap64 ((i : Int) - 1) = ((i - 1 : Nat) : Int) by rw [w64 (by omega) (by omega)]; omega, if_pos (by omega), if_pos (by omega), rdD, decide_eq_false hi]
        by_cases hc : xs.getD (i - 1) 0 < xs.getD i 0
        · rw [if_neg (by omega), ih (i + 1) (by omega) k (by omega), decide_eq_true hc]
          simp
        · rw [if_pos (by omega), decide_eq_false hc]
          simp
    · rw [decide_eq_false h, if_neg (by decide)]
      simp
theorem ascS (l : List S68) (fs : List S39) (hf : fs.length ≤ 1048576) (xs : List Int) (hx : xs.length ≤ 1048576) (k : Nat) (hk : xs.length < k) : spec_l4Set.f k l fs xs = some (asc xs fs.length) := by
  unfold spec_l4Set.f asc
  exact ascSl l fs hf xs hx xs.length 0 (by omega) k hk

/-- The text of a fact: its relation's name, its values, a bar behind the key; the empty text where the fact is not valid. -/
def fTx (l : List S68) (a : Int) (vs : List Int) : ByteArray := if vFact l a vs = true then (rd_T68 l a).f0 ++ bar (vs.map numB) (rd_T68 l a).f2.toNat else (⟨#[]⟩ : ByteArray)
theorem fTx_sz (l : List S68) (a : Int) (vs : List Int) (hb : ∀ v ∈ vs, -9223372036854775808 ≤ v ∧ v ≤ 9223372036854775807) : (fTx l a vs).size ≤ 1049576 := by
  unfold fTx
  by_cases h : vFact l a vs = true
  · have hv := h
    unfold vFact at hv
    rw [Bool.and_eq_true] at hv
    obtain ⟨h0, h1, h2, h3, h4, h5⟩ := key_ok l hv.1 a vs hv.2
    have hsz : (rd_T68 l a).f0.size ≤ 1048576 := vRel_sz _ (vRels_at l hv.1 a h0 h1)
    have hm : ∀ x ∈ vs.map numB, x.size ≤ 21 := by
      intro x hx
      obtain ⟨v, hv, rfl⟩ := List.mem_map.1 hx
      exact numB_sz v (hb v hv).1 (hb v hv).2
    have hbz := bar_sz (vs.map numB) (rd_T68 l a).f2.toNat (by rw [List.length_map]; exact h5) hm
    rw [if_pos h, ByteArray.size_append]
    omega
  · rw [if_neg h]
    exact Nat.zero_le _
theorem ffB2 (l : List S68) (hl : l.length ≤ 1048576) (a : Int) (vs : List Int) (hs : vs.length ≤ 1048576) (hb : ∀ v ∈ vs, -9223372036854775808 ≤ v ∧ v ≤ 9223372036854775807) (k : Nat) (hk : 2000000 < k) : spec_FormatFact.f k l a vs = some (fTx l a vs) ∧ impl_FormatFact.f k l a vs = some (fTx l a vs) := by
  unfold spec_FormatFact.f impl_FormatFact.f fTx
  rw [vFS l hl a vs hs k (by omega), vFI l hl a vs, Option.bind_some, Option.bind_some]
  by_cases h : vFact l a vs = true
  · have hv := h
    unfold vFact at hv
    rw [Bool.and_eq_true] at hv
    obtain ⟨h0, h1, h2, h3, h4, h5⟩ := key_ok l hv.1 a vs hv.2
    have hn := vRels_at l hv.1 a h0 h1
    have hsz : (rd_T68 l a).f0.size ≤ 1048576 := vRel_sz _ hn
    rw [if_pos h, if_pos h, if_pos h0, if_pos h1, if_pos h]
    have e1 := ffSl l a h0 h1 (rd_T68 l a).f2.toNat (by omega) vs h5 hb vs.length 0 (rd_T68 l a).f0 (by omega) (by omega) k (by omega)
    have e2 := ffIl l a h0 h1 (rd_T68 l a).f2.toNat (by omega) vs h5 (by omega) hsz hb vs.length 0 (by omega) k (by omega)
    rw [List.drop_zero, ffs_bar vs 0 _ _ (by omega), Nat.sub_zero] at e1
    exact ⟨e1, e2⟩
  · rw [if_neg h, if_neg h, if_neg h]
    exact ⟨rfl, rfl⟩
/-- Texts laid behind each other with a byte between them. -/
def spj (b : ByteArray) : Nat → List ByteArray → ByteArray → ByteArray
  | _, [], s => s
  | i, x :: xs, s => spj b (i + 1) xs ((if 0 < i then s ++ b else s) ++ x)
theorem spj_tail (b : ByteArray) : ∀ (xs : List ByteArray) (i : Nat) (s : ByteArray), 0 < i → spj b i xs s = s ++ (⟨(Lib.joinTail b.data.toList (xs.map fun x => x.data.toList)).toArray⟩ : ByteArray)
  | [], i, s, _ => by
    rw [spj]
    apply ByteArray.ext; apply Array.ext'; simp [ByteArray.data_append, Lib.joinTail]
  | x :: xs, i, s, h => by
    rw [spj, if_pos h, spj_tail b xs (i + 1) _ (by omega)]
    apply ByteArray.ext; apply Array.ext'; simp [ByteArray.data_append, Lib.joinTail]
theorem spj_join (b : ByteArray) : ∀ (xs : List ByteArray), spj b 0 xs (⟨#[]⟩ : ByteArray) = (⟨(Shelf.jn_ xs b).toArray⟩ : ByteArray)
  | [] => by
    rw [spj]
    unfold Shelf.jn_
    rw [List.map_nil, Lib.join_nil]
  | x :: xs => by
    rw [spj, if_neg (by omega), spj_tail b xs 1 _ (by omega)]
    unfold Shelf.jn_
    rw [List.map_cons, Lib.join_cons]
    apply ByteArray.ext; apply Array.ext'; simp [ByteArray.data_append]
theorem spj_sz (b : ByteArray) (B : Nat) (hB : b.size ≤ 1) : ∀ (xs : List ByteArray) (i : Nat) (s : ByteArray), (∀ x ∈ xs, x.size ≤ B) → (spj b i xs s).size ≤ s.size + xs.length * (B + 1)
  | [], i, s, _ => by rw [spj]; simp
  | x :: xs, i, s, h => by
    have h1 := spj_sz b B hB xs (i + 1) ((if 0 < i then s ++ b else s) ++ x) fun y hy => h y (List.mem_cons_of_mem _ hy)
    have h2 := h x (List.mem_cons_self ..)
    rw [spj]
    have h3 : (if 0 < i then s ++ b else s).size ≤ s.size + 1 := by
      split
      · rw [ByteArray.size_append]; omega
      · omega
    rw [ByteArray.size_append] at h1
    rw [List.length_cons, Nat.succ_mul]
    omega
theorem asc_ge (xs : List Int) (n : Int) (h : asc xs n = true) : ∀ j, j < xs.length → (j : Int) ≤ xs.getD j 0
  | 0, hj => (asc_at xs n h 0 hj).1.1
  | j + 1, hj => by
    have h1 := asc_ge xs n h j (by omega)
    have h2 := (asc_at xs n h (j + 1) hj).2
    rw [show j + 1 - 1 = j from rfl] at h2
    omega
theorem asc_le (xs : List Int) (n : Nat) (h : asc xs n = true) : xs.length ≤ n := by
  by_cases h0 : xs.length = 0
  · omega
  · have h1 := asc_ge xs n h (xs.length - 1) (by omega)
    have h2 := (asc_at xs n h (xs.length - 1) (by omega)).1.2
    omega
def fTxs (l : List S68) (ys : List S39) : List ByteArray := ys.map fun y => fTx l y.f0 y.f1
theorem faIl (l : List S68) (hl : l.length ≤ 1048576) (ys : List S39) (hn : ys.length ≤ 14) (hg : ∀ y ∈ ys, y.f1.length ≤ 1048576) (hb : ∀ y ∈ ys, ∀ v ∈ y.f1, -9223372036854775808 ≤ v ∧ v ≤ 9223372036854775807) (d : Nat) : ∀ (i : Nat), i + d = ys.length → ∀ k, 2000100 + d < k → impl_formatAll.l0 k (fTxs l (ys.take i)) ys ys.length i l ys = some (⟨(Shelf.jn_ (fTxs l ys) (⟨#[32]⟩ : ByteArray)).toArray⟩ : ByteArray) := by
  have hz : ∀ x ∈ fTxs l ys, x.size ≤ 1049576 := by
    intro x hx
    obtain ⟨y, hy, rfl⟩ := List.mem_map.1 hx
    exact fTx_sz l y.f0 y.f1 (hb y hy)
  have hq := spj_sz (⟨#[32]⟩ : ByteArray) 1049576 (by decide) (fTxs l ys) 0 (⟨#[]⟩ : ByteArray) hz
  have hlen : (fTxs l ys).length = ys.length := by unfold fTxs; simp
  rw [spj_join, sz_mk, hlen, show (⟨#[]⟩ : ByteArray).size = 0 from rfl] at hq
  have hq' : (Shelf.jn_ (fTxs l ys) (⟨#[32]⟩ : ByteArray)).length ≤ 1000000000 := by omega
  induction d with
  | zero =>
    intro i hd k hk
    obtain ⟨k, rfl, hk⟩ := fuel hk
    rw [impl_formatAll.l0, if_neg (by omega), List.take_of_length_le (by omega)]
    unfold strings_Join.f
    rw [if_pos ⟨by omega, hq'⟩, Option.bind_some]
  | succ d ih =>
    intro i hd k hk
    obtain ⟨k, rfl, hk⟩ := fuel hk
    have hm := getD_mem ys z39 i (by omega)
    rw [impl_formatAll.l0, if_pos (by omega), if_pos (by omega), if_pos (by omega)]
    unfold rd_T39
    rw [Int.toNat_natCast, (ffB2 l hl _ _ (hg _ hm) (hb _ hm) k (by omega)).2, Option.bind_some, if_pos (by unfold fTxs; rw [List.length_map, List.length_take]; omega), show wrap64 ((i : Int) + 1) = ((i + 1 : Nat) : Int) by rw [w64 (by omega) (by omega)]; omega]
    rw [show fTxs l (ys.take i) ++ [fTx l (ys.getD i z39).f0 (ys.getD i z39).f1] = fTxs l (ys.take (i + 1)) by unfold fTxs; rw [List.take_succ_eq_append_getElem (by omega), List.map_append, getD_lt ys _ i (by omega)]; rfl]
    exact ih (i + 1) (by omega) k (by omega)
theorem faI (l : List S68) (hl : l.length ≤ 1048576) (ys : List S39) (hn : ys.length ≤ 14) (hg : ∀ y ∈ ys, y.f1.length ≤ 1048576) (hb : ∀ y ∈ ys, ∀ v ∈ y.f1, -9223372036854775808 ≤ v ∧ v ≤ 9223372036854775807) (k : Nat) (hk : 2000200 < k) : impl_formatAll.f k l ys = some (⟨(Shelf.jn_ (fTxs l ys) (⟨#[32]⟩ : ByteArray)).toArray⟩ : ByteArray) := by
  unfold impl_formatAll.f
  exact faIl l hl ys hn hg hb ys.length 0 (by omega) k (by omega)

theorem ffsSl (l : List S68) (hl : l.length ≤ 1048576) (fs : List S39) (hf : fs.length ≤ 1048576) (hg : ∀ y ∈ fs, y.f1.length ≤ 1048576) (hb : ∀ y ∈ fs, ∀ v ∈ y.f1, -9223372036854775808 ≤ v ∧ v ≤ 9223372036854775807) (xs : List Int) (hx : xs.length ≤ 14) (hv : vDb l fs = true) (ha : asc xs fs.length = true) (d : Nat) : ∀ (i : Nat) (s : ByteArray), i + d = xs.length → s.size + 2000000 * d ≤ 1000000000 → ∀ k, 7000000 + 2 * d < k → spec_FormatFacts.l0 k xs s i l fs = some (spj (⟨#[32]⟩ : ByteArray) i ((fTxs l (sel fs xs)).drop i) s) := by
  have hlen : (fTxs l (sel fs xs)).length = xs.length := by unfold fTxs sel; simp
  induction d with
  | zero =>
    intro i s hd _ k hk
    obtain ⟨k, rfl, hk⟩ := fuel hk
    obtain ⟨k, rfl⟩ : ∃ z, k = z + 1 := ⟨k - 1, by omega⟩
    rw [spec_FormatFacts.l0, if_neg (by omega), spec_FormatFacts.j1, if_neg (by decide), List.drop_eq_nil_of_le (by omega), spj]
  | succ d ih =>
    intro i s hd hs k hk
    obtain ⟨k, rfl, hk⟩ := fuel hk
    obtain ⟨k, rfl⟩ : ∃ z, k = z + 1 := ⟨k - 1, by omega⟩
    have hi := (asc_at xs fs.length ha i (by omega)).1
    have hm := getD_mem fs z39 (xs.getD i 0).toNat (by omega)
    have hz := fTx_sz l (fs.getD (xs.getD i 0).toNat z39).f0 (fs.getD (xs.getD i 0).toNat z39).f1 (hb _ hm)
    have l1 : (⟨#[32]⟩ : ByteArray).size = 1 := rfl
    have he : (fTxs l (sel fs xs)).drop i = fTx l (fs.getD (xs.getD i 0).toNat z39).f0 (fs.getD (xs.getD i 0).toNat z39).f1 :: (fTxs l (sel fs xs)).drop (i + 1) := by
      rw [List.drop_eq_getElem_cons (by omega)]
      congr 1
      unfold fTxs sel
      rw [List.getElem_map, List.getElem_map, getD_lt xs 0 i (by omega)]
    rw [spec_FormatFacts.l0, if_pos (by omega), vDS l hl fs hf hg _ (by omega), Option.bind_some, if_pos hv, ascS l fs hf xs (by omega) _ (by omega), Option.bind_some, ha, spec_FormatFacts.j1, if_pos rfl, he, spj, rdD, show wrap64 ((i : Int) + 1) = ((i + 1 : Nat) : Int) by rw [w64 (by omega) (by omega)]; omega]
    unfold rd_T39
    rw [(ffB2 l hl _ _ (hg _ hm) (hb _ hm) k (by omega)).1]
    simp only [Option.bind_some]
    by_cases h0 : i = 0
    · rw [if_neg (by omega), if_pos (by omega), if_pos (by omega), if_pos (by omega), if_pos (by omega), if_pos (by omega), if_neg (by omega)]
      exact ih (i + 1) _ (by omega) (by rw [ByteArray.size_append]; omega) k (by omega)
    · rw [if_pos (by omega), if_pos (by omega), if_pos (by omega), if_pos (by omega), if_pos (by omega), if_pos (by omega), if_pos (by rw [ByteArray.size_append]; omega), if_pos (by omega)]
      exact ih (i + 1) _ (by omega) (by rw [ByteArray.size_append, ByteArray.size_append]; omega) k (by omega)
theorem vDb_14 (l : List S68) (fs : List S39) (h : vDb l fs = true) : fs.length ≤ 14 := by
  unfold vDb at h
  rw [Bool.and_eq_true, Bool.and_eq_true] at h
  exact of_decide_eq_true h.1.2
theorem sel_b (fs : List S39) (hb : ∀ y ∈ fs, ∀ v ∈ y.f1, -9223372036854775808 ≤ v ∧ v ≤ 9223372036854775807) (xs : List Int) : ∀ y ∈ sel fs xs, ∀ v ∈ y.f1, -9223372036854775808 ≤ v ∧ v ≤ 9223372036854775807 := by
  intro y hy
  obtain ⟨i, _, rfl⟩ := List.mem_map.1 hy
  by_cases h : i.toNat < fs.length
  · exact hb _ (getD_mem fs z39 _ h)
  · rw [List.getD_eq_getElem?_getD, List.getElem?_eq_none (by omega)]
    intro v hv
    exact absurd hv (by simp [z39])

/-- The text of a relation; the empty text where the relation is not valid. -/
def rTx (r : S68) : ByteArray := if vRel r = true then ((r.f0 ++ numB r.f2) ++ (⟨#[47]⟩ : ByteArray)) ++ numB r.f1 else (⟨#[]⟩ : ByteArray)
def okN (v : Int) : Prop := -9223372036854775808 ≤ v ∧ v ≤ 9223372036854775807
theorem rTx_sz (r : S68) (h1 : okN r.f1) (h2 : okN r.f2) : (rTx r).size ≤ 50 := by
  unfold rTx
  by_cases h : vRel r = true
  · have hs := h
    unfold vRel at hs
    rw [Bool.and_eq_true, Bool.and_eq_true, decide_eq_true_iff] at hs
    have := hs.1.1.1
    have l1 : (⟨#[47]⟩ : ByteArray).size = 1 := rfl
    have a := numB_sz r.f1 h1.1 h1.2
    have b := numB_sz r.f2 h2.1 h2.2
    rw [if_pos h, ByteArray.size_append, ByteArray.size_append, ByteArray.size_append]
    omega
  · rw [if_neg h]
    exact Nat.zero_le _
theorem frB2 (r : S68) (h1 : okN r.f1) (h2 : okN r.f2) (k : Nat) (hk : 30 < k) : spec_FormatRelation.f k r.f0 r.f1 r.f2 = some (rTx r) ∧ impl_FormatRelation.f r.f0 r.f1 r.f2 = some (rTx r) := by
  unfold spec_FormatRelation.f impl_FormatRelation.f rTx
  rw [vRelS, vRelI, Option.bind_some, Option.bind_some]
  by_cases h : vRel r = true
  · have hs := h
    unfold vRel at hs
    rw [Bool.and_eq_true, Bool.and_eq_true, decide_eq_true_iff] at hs
    have := hs.1.1.1
    have l1 : (⟨#[47]⟩ : ByteArray).size = 1 := rfl
    have a := numB_sz r.f1 h1.1 h1.2
    have b := numB_sz r.f2 h2.1 h2.2
    have e1 : spec_FormatInt.f k r.f2 = some (numB r.f2) := fiS _ h2.1 h2.2 k (by omega)
    have e2 : spec_FormatInt.f k r.f1 = some (numB r.f1) := fiS _ h1.1 h1.2 k (by omega)
    have e3 : impl_FormatInt.f r.f2 = some (numB r.f2) := fiI _ h2.1 h2.2
    have e4 : impl_FormatInt.f r.f1 = some (numB r.f1) := fiI _ h1.1 h1.2
    rw [if_pos h, if_pos h, if_pos h, e1, e2, e3, e4]
    simp only [Option.bind_some]
    rw [if_pos (by omega), if_pos (by rw [ByteArray.size_append]; omega), if_pos (by rw [ByteArray.size_append, ByteArray.size_append]; omega)]
    exact ⟨rfl, rfl⟩
  · rw [if_neg h, if_neg h, if_neg h]
    exact ⟨rfl, rfl⟩

def rng (n : Nat) : List Int := (List.range n).map fun (i : Nat) => (i : Int)
theorem rng_len (n : Nat) : (rng n).length = n := by unfold rng; simp
theorem rng_at (n j : Nat) (h : j < n) : (rng n).getD j 0 = (j : Int) := by
  rw [getD_lt _ _ j (by rw [rng_len]; exact h)]
  unfold rng
  rw [List.getElem_map, List.getElem_range]
theorem rng_asc (n : Nat) : asc (rng n) n = true := by
  have go : ∀ (d i : Nat), i + d = n → ascFrom (rng n) n d i = true := by
    intro d
    induction d with
    | zero => intro i _; rfl
    | succ d ih =>
      intro i hd
      rw [ascFrom, ih (i + 1) (by omega), rng_at n i (by omega), Bool.and_true, Bool.and_eq_true, Bool.or_eq_true, decide_eq_true_iff, decide_eq_true_iff, decide_eq_true_iff]
      refine ⟨by omega, ?_⟩
      by_cases h : i = 0
      · exact .inl h
      · right
        rw [rng_at n (i - 1) (by omega)]
        omega
  have := go n 0 (by omega)
  unfold asc
  rw [rng_len]
  exact this
theorem rng_sel (fs : List S39) : sel fs (rng fs.length) = fs := by
  apply List.ext_getElem
  · rw [sel_len, rng_len]
  · intro i h1 h2
    simp only [sel, rng, List.getElem_map, List.getElem_range, Int.toNat_natCast]
    exact getD_lt fs _ i h2
theorem rng_succ (n : Nat) : rng n ++ [(n : Int)] = rng (n + 1) := by
  unfold rng
  rw [List.range_succ, List.map_append]
  rfl
theorem l6l (l : List S68) (fs : List S39) (hf : fs.length ≤ 1048576) (d : Nat) : ∀ (i : Nat), i + d = fs.length → ∀ k, d < k → spec_l6All.l0 k (rng i) l fs = some (rng fs.length) := by
  induction d with
  | zero =>
    intro i hd k hk
    obtain ⟨k, rfl, hk⟩ := fuel hk
    rw [spec_l6All.l0, rng_len, if_neg (by omega), show i = fs.length by omega]
  | succ d ih =>
    intro i hd k hk
    obtain ⟨k, rfl, hk⟩ := fuel hk
    rw [spec_l6All.l0, rng_len, if_pos (by omega), if_pos (by omega), rng_succ]
    exact ih (i + 1) (by omega) k (by omega)
theorem l6 (l : List S68) (fs : List S39) (hf : fs.length ≤ 1048576) (k : Nat) (hk : fs.length < k) : spec_l6All.f k l fs = some (rng fs.length) := by
  unfold spec_l6All.f
  exact l6l l fs hf fs.length 0 (by omega) k hk
def rTxs (l : List S68) : List ByteArray := l.map rTx
/-- The text of a database: its relations, a colon, its facts. -/
def dTx (l : List S68) (fs : List S39) : ByteArray := (spj (⟨#[32]⟩ : ByteArray) 0 (rTxs l) (⟨#[]⟩ : ByteArray) ++ (⟨#[58]⟩ : ByteArray)) ++ spj (⟨#[32]⟩ : ByteArray) 0 (fTxs l fs) (⟨#[]⟩ : ByteArray)
theorem fdSl (l : List S68) (hl : l.length ≤ 1048576) (hr : ∀ y ∈ l, okN y.f1 ∧ okN y.f2) (fs : List S39) (hf : fs.length ≤ 1048576) (hg : ∀ y ∈ fs, y.f1.length ≤ 1048576) (hb : ∀ y ∈ fs, ∀ v ∈ y.f1, -9223372036854775808 ≤ v ∧ v ≤ 9223372036854775807) (hv : vDb l fs = true) (d : Nat) : ∀ (i : Nat) (s : ByteArray), i + d = l.length → s.size + 60 * d ≤ 1000000000 → ∀ k, 8000000 + d < k → spec_FormatDatabase.l0 k s i l fs = some ((spj (⟨#[32]⟩ : ByteArray) i ((rTxs l).drop i) s ++ (⟨#[58]⟩ : ByteArray)) ++ spj (⟨#[32]⟩ : ByteArray) 0 (fTxs l fs) (⟨#[]⟩ : ByteArray)) := by
  have hlen : (rTxs l).length = l.length := by unfold rTxs; simp
  have h14 := vDb_14 l fs hv
  have hz : ∀ x ∈ fTxs l fs, x.size ≤ 1049576 := by
    intro x hx
    obtain ⟨y, hy, rfl⟩ := List.mem_map.1 hx
    exact fTx_sz l y.f0 y.f1 (hb y hy)
  have hq := spj_sz (⟨#[32]⟩ : ByteArray) 1049576 (by decide) (fTxs l fs) 0 (⟨#[]⟩ : ByteArray) hz
  have hlf : (fTxs l fs).length = fs.length := by unfold fTxs; simp
  rw [hlf, show (⟨#[]⟩ : ByteArray).size = 0 from rfl] at hq
  have l1 : (⟨#[58]⟩ : ByteArray).size = 1 := rfl
  have l2 : (⟨#[32]⟩ : ByteArray).size = 1 := rfl
  induction d with
  | zero =>
    intro i s hd hs k hk
    obtain ⟨k, rfl, hk⟩ := fuel hk
    have e1 := ffsSl l hl fs hf hg hb (rng fs.length) (by rw [rng_len]; exact h14) hv (rng_asc _) (rng fs.length).length 0 (⟨#[]⟩ : ByteArray) (by omega) (by rw [rng_len, show (⟨#[]⟩ : ByteArray).size = 0 from rfl]; omega) k (by rw [rng_len]; omega)
    rw [rng_sel, List.drop_zero] at e1
    rw [spec_FormatDatabase.l0, if_neg (by omega), if_pos (by omega), l6 l fs hf k (by omega), Option.bind_some, show spec_FormatFacts.f k l fs (rng fs.length) = _ from e1, Option.bind_some, if_pos (by rw [ByteArray.size_append]; omega), List.drop_eq_nil_of_le (by omega), spj]
  | succ d ih =>
    intro i s hd hs k hk
    obtain ⟨k, rfl, hk⟩ := fuel hk
    have hm := getD_mem l z68 i (by omega)
    have hz := rTx_sz _ (hr _ hm).1 (hr _ hm).2
    have he : (rTxs l).drop i = rTx (l.getD i z68) :: (rTxs l).drop (i + 1) := by
      rw [List.drop_eq_getElem_cons (by omega)]
      congr 1
      unfold rTxs
      rw [List.getElem_map, getD_lt l _ i (by omega)]
    rw [spec_FormatDatabase.l0, if_pos (by omega), he, spj, show wrap64 ((i : Int) + 1) = ((i + 1 : Nat) : Int) by rw [w64 (by omega) (by omega)]; omega]
    unfold rd_T68
    rw [Int.toNat_natCast, (frB2 _ (hr _ hm).1 (hr _ hm).2 k (by omega)).1]
    simp only [Option.bind_some]
    by_cases h0 : i = 0
    · rw [if_neg (by omega), if_pos (by omega), if_pos (by omega), if_neg (by omega)]
      exact ih (i + 1) _ (by omega) (by rw [ByteArray.size_append]; omega) k (by omega)
    · rw [if_pos (by omega), if_pos (by omega), if_pos (by omega), if_pos (by rw [ByteArray.size_append]; omega), if_pos (by omega)]
      exact ih (i + 1) _ (by omega) (by rw [ByteArray.size_append, ByteArray.size_append]; omega) k (by omega)
theorem fdIl (l : List S68) (hl : l.length ≤ 1048576) (hr : ∀ y ∈ l, okN y.f1 ∧ okN y.f2) (fs : List S39) (hf : fs.length ≤ 1048576) (hg : ∀ y ∈ fs, y.f1.length ≤ 1048576) (hb : ∀ y ∈ fs, ∀ v ∈ y.f1, -9223372036854775808 ≤ v ∧ v ≤ 9223372036854775807) (hv : vDb l fs = true) (d : Nat) : ∀ (i : Nat), i + d = l.length → ∀ k, 8000000 + d < k → impl_FormatDatabase.l0 k (rTxs (l.take i)) l l.length i l fs = some (dTx l fs) := by
  have hlen : (rTxs l).length = l.length := by unfold rTxs; simp
  have h14 := vDb_14 l fs hv
  have hz : ∀ x ∈ fTxs l fs, x.size ≤ 1049576 := by
    intro x hx
    obtain ⟨y, hy, rfl⟩ := List.mem_map.1 hx
    exact fTx_sz l y.f0 y.f1 (hb y hy)
  have hzr : ∀ x ∈ rTxs l, x.size ≤ 50 := by
    intro x hx
    obtain ⟨y, hy, rfl⟩ := List.mem_map.1 hx
    exact rTx_sz y (hr y hy).1 (hr y hy).2
  have hq := spj_sz (⟨#[32]⟩ : ByteArray) 1049576 (by decide) (fTxs l fs) 0 (⟨#[]⟩ : ByteArray) hz
  have hqr := spj_sz (⟨#[32]⟩ : ByteArray) 50 (by decide) (rTxs l) 0 (⟨#[]⟩ : ByteArray) hzr
  have hlf : (fTxs l fs).length = fs.length := by unfold fTxs; simp
  rw [hlf, show (⟨#[]⟩ : ByteArray).size = 0 from rfl] at hq
  rw [hlen, show (⟨#[]⟩ : ByteArray).size = 0 from rfl] at hqr
  have l1 : (⟨#[58]⟩ : ByteArray).size = 1 := rfl
  have hjr : (Shelf.jn_ (rTxs l) (⟨#[32]⟩ : ByteArray)).length ≤ 1000000000 := by
    rw [spj_join, sz_mk] at hqr
    omega
  induction d with
  | zero =>
    intro i hd k hk
    obtain ⟨k, rfl, hk⟩ := fuel hk
    rw [impl_FormatDatabase.l0, if_neg (by omega), List.take_of_length_le (by omega)]
    unfold strings_Join.f
    rw [if_pos ⟨by omega, hjr⟩, Option.bind_some, faI l hl fs h14 hg hb k (by omega), ← spj_join, ← spj_join, Option.bind_some, if_pos (by omega), if_pos (by rw [ByteArray.size_append]; omega)]
    rfl
  | succ d ih =>
    intro i hd k hk
    obtain ⟨k, rfl, hk⟩ := fuel hk
    have hm := getD_mem l z68 i (by omega)
    rw [impl_FormatDatabase.l0, if_pos (by omega), if_pos (by omega), if_pos (by omega)]
    unfold rd_T68
    rw [Int.toNat_natCast, (frB2 _ (hr _ hm).1 (hr _ hm).2 31 (by omega)).2, Option.bind_some, if_pos (by unfold rTxs; rw [List.length_map, List.length_take]; omega), show wrap64 ((i : Int) + 1) = ((i + 1 : Nat) : Int) by rw [w64 (by omega) (by omega)]; omega]
    rw [show rTxs (l.take i) ++ [rTx (l.getD i z68)] = rTxs (l.take (i + 1)) by unfold rTxs; rw [List.take_succ_eq_append_getElem (by omega), List.map_append, getD_lt l _ i (by omega)]; rfl]
    exact ih (i + 1) (by omega) k (by omega)
theorem fdB (l : List S68) (hl : l.length ≤ 1048576) (hr : ∀ y ∈ l, okN y.f1 ∧ okN y.f2) (fs : List S39) (hf : fs.length ≤ 1048576) (hg : ∀ y ∈ fs, y.f1.length ≤ 1048576) (hb : ∀ y ∈ fs, ∀ v ∈ y.f1, -9223372036854775808 ≤ v ∧ v ≤ 9223372036854775807) (k : Nat) (hk : 9100000 < k) : ∃ S, spec_FormatDatabase.f k l fs = some S ∧ impl_FormatDatabase.f k l fs = some S := by
  unfold spec_FormatDatabase.f impl_FormatDatabase.f
  rw [vDS l hl fs hf hg k (by omega), vDI l hl fs hf hg k (by omega), Option.bind_some, Option.bind_some]
  by_cases h : vDb l fs = true
  · have e1 := fdSl l hl hr fs hf hg hb h l.length 0 (⟨#[]⟩ : ByteArray) (by omega) (by rw [show (⟨#[]⟩ : ByteArray).size = 0 from rfl]; omega) k (by omega)
    have e2 := fdIl l hl hr fs hf hg hb h l.length 0 (by omega) k (by omega)
    rw [List.drop_zero] at e1
    rw [if_pos h, if_pos h]
    exact ⟨_, e1, e2⟩
  · rw [if_neg h, if_neg h]
    exact ⟨_, rfl, rfl⟩


theorem FnExactFormatDatabase : FnExactFormatDatabasePure := by
  intro x hx
  obtain ⟨r, h1, h2, h3, h4⟩ := szD x.f0 x.f1 hx.1.1 (fun y hy => (hx.1.2 y hy).1) hx.2.1 (fun y hy => (hx.2.2 y hy).2.1) 1048576 (by omega) (by omega)
  by_cases hr : r < 0
  · refine ⟨x.f0.length + x.f1.length + 1, ?_⟩
    unfold laws_FnExactFormatDatabase.f
    rw [h4 _ (by omega) (by omega), Option.bind_some, if_pos hr]
  obtain ⟨hl, hf, hg⟩ := h3 (by omega)
  have hl : x.f0.length ≤ 1048576 := by omega
  have hf : x.f1.length ≤ 1048576 := by omega
  have hg : ∀ y ∈ x.f1, y.f1.length ≤ 1048576 := fun y hy => by have := hg y hy; omega
  have hml : (x.f0.map cvR).length = x.f0.length := by simp
  have hmf : (x.f1.map cvF).length = x.f1.length := by simp
  have hmg := cvFg x.f1 hg
  have hmb : ∀ y ∈ x.f1.map cvF, ∀ v ∈ y.f1, -9223372036854775808 ≤ v ∧ v ≤ 9223372036854775807 := by
    intro y hy
    obtain ⟨z, hz, rfl⟩ := List.mem_map.1 hy
    exact fun v hv => wfb ((hx.2.2 z hz).2.2 v hv)
  have hmr : ∀ y ∈ x.f0.map cvR, okN y.f1 ∧ okN y.f2 := by
    intro y hy
    obtain ⟨z, hz, rfl⟩ := List.mem_map.1 hy
    exact ⟨wfb (hx.1.2 z hz).2.1, wfb (hx.1.2 z hz).2.2⟩
  refine ⟨9200001, ?_⟩
  generalize hk : (9200001 : Nat) = k
  obtain ⟨S, s1, s2⟩ := fdB (x.f0.map cvR) (by omega) hmr (x.f1.map cvF) (by omega) hmg hmb k (by omega)
  unfold laws_FnExactFormatDatabase.f
  rw [h4 _ (by omega) (by omega), Option.bind_some, if_neg hr, toD _ _ hl hf hg _ (by omega)]
  simp only [Option.bind_some]
  rw [s1, s2]
  simp only [Option.bind_some, if_true]
  rw [eqD _ _ (by omega) (by omega) hmg _ (by omega)]
  simp

end Go.Proofs.YtckpikfbhlhhjaaDoor.Pure
