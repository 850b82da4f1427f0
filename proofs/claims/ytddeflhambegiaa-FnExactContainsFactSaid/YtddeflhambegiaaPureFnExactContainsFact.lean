/- The law FnExactContainsFact answers true for every database and fact that the row admits: both texts answer alike, and the arguments are left as they were. -/
import Derived.Test.YtddeflhambegiaaGFnExactContainsFact
import Derived.Test.YtddeflhambegiaaBase
namespace Go.Proofs.Ytddeflhambegiaa.Pure
open Go.RowKit Go.Proofs.Ytddeflhambegiaa.PAll Go.Proofs.YtddeflhambegiaaW.PrintWords Go.Proofs.YtddeflhambegiaaW.PrintLast Go.Proofs.YtddeflhambegiaaW.PrintMore Go.Proofs.Ytddeflhambegiaa.Base
set_option linter.unusedVariables false
set_option linter.unusedSimpArgs false

/-! ### relations: what the laws' own functions on them come to -/
def cvR (x : S78) : S81 := ⟨x.f0, x.f1, x.f2⟩

theorem szR (n a b v : _) (hn : n.size ≤ maxLen) (hv : 0 ≤ v) (hv1 : v ≤ 1048576) : ∃ r, laws_szRelation.f n a b v = some r ∧ r ≤ v ∧ -1 ≤ r ∧ (0 ≤ r → (n.size : Int) ≤ v) := by
  unfold maxLen at hn
  unfold laws_szRelation.f
  rw [w64 (by omega) (by omega)]
  by_cases h : v - (n.size : Int) < 0
  · exact ⟨-1, if_pos h, by omega, by omega, fun h => absurd h (by decide)⟩
  · exact ⟨_, if_neg h, by omega, by omega, fun _ => by omega⟩

theorem szRSl (l : List S78) (hl : l.length ≤ maxLen) (hg : ∀ y ∈ l, y.f0.size ≤ maxLen) (d : Nat) : ∀ (i v : Int), 0 ≤ i → (l.length : Int) - i = d → 0 ≤ v → v ≤ 1048576 → ∃ r, r ≤ v ∧ -1 ≤ r ∧ ∀ k, d < k → laws_szRelationS.l0 k l v i = some r := by
  unfold maxLen at hl
  induction d with
  | zero =>
    intro i v h0 hd hv _
    refine ⟨v, by omega, by omega, fun k hk => ?_⟩
    obtain ⟨k, rfl, hk⟩ := fuel hk
    rw [laws_szRelationS.l0, if_neg (by omega)]
  | succ d ih =>
    intro i v h0 hd hv hv1
    obtain ⟨r, hr, h1, h2, _⟩ := szR (rd_T78 l i).f0 (rd_T78 l i).f1 (rd_T78 l i).f2 v (hg _ (getD_mem l _ _ (by omega))) hv hv1
    by_cases hneg : r < 0
    · refine ⟨-1, by omega, by omega, fun k hk => ?_⟩
      obtain ⟨k, rfl, hk⟩ := fuel hk
      rw [laws_szRelationS.l0, if_pos (by omega), if_pos h0, hr]
      simp only [Option.bind_some]
      rw [if_pos hneg]
    · obtain ⟨r', h3, h4, h5⟩ := ih (i + 1) r (by omega) (by omega) (by omega) (by omega)
      refine ⟨r', by omega, h4, fun k hk => ?_⟩
      obtain ⟨k, rfl, hk⟩ := fuel hk
      rw [laws_szRelationS.l0, if_pos (by omega), if_pos h0, hr]
      simp only [Option.bind_some]
      rw [if_neg hneg, w64 (by omega) (by omega)]
      exact h5 k (by omega)

theorem szRS (l : List S78) (hl : l.length ≤ maxLen) (hg : ∀ y ∈ l, y.f0.size ≤ maxLen) (v : Int) (hv : 0 ≤ v) (hv1 : v ≤ 1048576) : ∃ r, r ≤ v ∧ -1 ≤ r ∧ (0 ≤ r → (l.length : Int) ≤ v) ∧ ∀ k, l.length < k → laws_szRelationS.f k l v = some r := by
  have hl' := hl
  unfold maxLen at hl'
  unfold laws_szRelationS.f
  rw [w64 (by omega) (by omega)]
  by_cases h : v - (l.length : Int) < 0
  · exact ⟨-1, by omega, by omega, fun h => absurd h (by decide), fun k _ => if_pos h⟩
  · obtain ⟨r, h1, h2, h3⟩ := szRSl l hl hg l.length 0 (v - l.length) (by omega) (by omega) (by omega) (by omega)
    exact ⟨r, by omega, h2, fun _ => by omega, fun k hk => by rw [if_neg h]; exact h3 k hk⟩

theorem toRSl (l : List S78) (hl : l.length ≤ 1048576) (d : Nat) : ∀ (i : Nat) (xs : List S81), (l.length : Int) - i = d → xs.length = l.length → xs.take i = (l.take i).map cvR → ∀ k, d < k → laws_toRelationS.l0 k l xs i = some (l.map cvR) := by
  induction d with
  | zero =>
    intro i xs hd hx ht k hk
    obtain ⟨k, rfl, hk⟩ := fuel hk
    rw [laws_toRelationS.l0, if_neg (by omega)]
    rw [List.take_of_length_le (by omega), List.take_of_length_le (by omega)] at ht
    rw [ht]
  | succ d ih =>
    intro i xs hd hx ht k hk
    obtain ⟨k, rfl, hk⟩ := fuel hk
    rw [laws_toRelationS.l0, if_pos (by omega), if_pos (by omega), laws_toRelation.f]
    simp only [Option.bind_some]
    rw [if_pos (by omega), show wrap64 ((i : Int) + 1) = ((i + 1 : Nat) : Int) by rw [w64 (by omega) (by omega)]; omega]
    refine ih (i + 1) _ (by omega) (by simpa using hx) ?_ k (by omega)
    rw [Int.toNat_natCast, take_set_succ _ _ _ (by omega), take_map_succ cvR z78 l i (by omega), ht]
    rfl

theorem toRS (l : List S78) (hl : l.length ≤ 1048576) (k : Nat) (hk : l.length < k) : laws_toRelationS.f k l = some (l.map cvR) := by
  unfold laws_toRelationS.f
  rw [if_pos (by omega), Int.toNat_natCast, if_pos (by omega)]
  exact toRSl l hl l.length 0 _ (by omega) (by simp) (by simp) k hk

theorem eqR (a : S81) : laws_eqRelation.f a.f0 a.f1 a.f2 a.f0 a.f1 a.f2 = some true := by
  unfold laws_eqRelation.f
  rw [if_pos rfl, if_pos rfl, if_pos rfl]
theorem eqRSl (l : List S81) (hl : l.length ≤ 1048576) (d : Nat) : ∀ (i : Int), 0 ≤ i → (l.length : Int) - i = d → ∀ k, d < k → laws_eqRelationS.l0 k l l i = some true := by
  induction d with
  | zero =>
    intro i h0 hd k hk
    obtain ⟨k, rfl, hk⟩ := fuel hk
    rw [laws_eqRelationS.l0, if_neg (by omega)]
  | succ d ih =>
    intro i h0 hd k hk
    obtain ⟨k, rfl, hk⟩ := fuel hk
    rw [laws_eqRelationS.l0, if_pos (by omega), if_pos h0, if_pos (by omega), eqR]
    simp only [Option.bind_some, if_true]
    rw [w64 (by omega) (by omega)]
    exact ih (i + 1) (by omega) (by omega) k (by omega)
theorem eqRS (l : List S81) (hl : l.length ≤ 1048576) (k : Nat) (hk : l.length < k) : laws_eqRelationS.f k l l = some true := by
  unfold laws_eqRelationS.f
  rw [if_pos rfl]
  exact eqRSl l hl l.length 0 (by omega) (by omega) k hk

/-! ### facts: what the laws' own functions on them come to -/
def cvF (x : S24) : S27 := ⟨x.f0, x.f1⟩
theorem szI (l : List Int) (v : Int) (hl : l.length ≤ maxLen) (hv : 0 ≤ v) (hv1 : v ≤ 1048576) : ∃ r, laws_szIntS.f l v = some r ∧ r ≤ v ∧ -1 ≤ r ∧ (0 ≤ r → (l.length : Int) ≤ v) := by
  unfold maxLen at hl
  unfold laws_szIntS.f
  rw [w64 (by omega) (by omega)]
  by_cases h : v - (l.length : Int) < 0
  · exact ⟨-1, if_pos h, by omega, by omega, fun h => absurd h (by decide)⟩
  · exact ⟨_, if_neg h, by omega, by omega, fun _ => by omega⟩
theorem szF (a : Int) (l : List Int) (v : Int) (hl : l.length ≤ maxLen) (hv : 0 ≤ v) (hv1 : v ≤ 1048576) : ∃ r, laws_szFact.f a l v = some r ∧ r ≤ v ∧ -1 ≤ r ∧ (0 ≤ r → (l.length : Int) ≤ v) := by
  obtain ⟨r, h1, h2, h3, h4⟩ := szI l v hl hv hv1
  unfold laws_szFact.f
  rw [h1]
  simp only [Option.bind_some]
  by_cases h : r < 0
  · exact ⟨-1, if_pos h, by omega, by omega, fun h => absurd h (by decide)⟩
  · exact ⟨r, if_neg h, h2, h3, h4⟩
theorem toIl (l : List Int) (hl : l.length ≤ 1048576) (d : Nat) : ∀ (i : Nat) (xs : List Int), (l.length : Int) - i = d → xs.length = l.length → xs.take i = l.take i → ∀ k, d < k → laws_toIntS.l0 k l xs i = some l := by
  induction d with
  | zero =>
    intro i xs hd hx ht k hk
    obtain ⟨k, rfl, hk⟩ := fuel hk
    rw [laws_toIntS.l0, if_neg (by omega)]
    rw [List.take_of_length_le (by omega), List.take_of_length_le (by omega)] at ht
    rw [ht]
  | succ d ih =>
    intro i xs hd hx ht k hk
    obtain ⟨k, rfl, hk⟩ := fuel hk
    rw [laws_toIntS.l0, if_pos (by omega), if_pos (by omega), if_pos (by omega), show wrap64 ((i : Int) + 1) = ((i + 1 : Nat) : Int) by rw [w64 (by omega) (by omega)]; omega]
    refine ih (i + 1) _ (by omega) (by simpa using hx) ?_ k (by omega)
    rw [Int.toNat_natCast, take_set_succ _ _ _ (by omega), ht, List.take_succ_eq_append_getElem (by omega)]
    congr 2
    unfold rd
    rw [Int.toNat_natCast, getD_lt l _ i (by omega)]
theorem toI (l : List Int) (hl : l.length ≤ 1048576) (k : Nat) (hk : l.length < k) : laws_toIntS.f k l = some l := by
  unfold laws_toIntS.f
  rw [if_pos (by omega), Int.toNat_natCast, if_pos (by omega)]
  exact toIl l hl l.length 0 _ (by omega) (by simp) (by simp) k hk
theorem toF (a : Int) (l : List Int) (hl : l.length ≤ 1048576) (k : Nat) (hk : l.length < k) : laws_toFact.f k a l = some (a, l) := by
  unfold laws_toFact.f
  rw [toI l hl k hk]
  rfl
theorem eqIl (l : List Int) (hl : l.length ≤ 1048576) (d : Nat) : ∀ (i : Int), 0 ≤ i → (l.length : Int) - i = d → ∀ k, d < k → laws_eqIntS.l0 k l l i = some true := by
  induction d with
  | zero =>
    intro i h0 hd k hk
    obtain ⟨k, rfl, hk⟩ := fuel hk
    rw [laws_eqIntS.l0, if_neg (by omega)]
  | succ d ih =>
    intro i h0 hd k hk
    obtain ⟨k, rfl, hk⟩ := fuel hk
    rw [laws_eqIntS.l0, if_pos (by omega), if_pos h0, if_pos (by omega), if_pos rfl, w64 (by omega) (by omega)]
    exact ih (i + 1) (by omega) (by omega) k (by omega)
theorem eqI (l : List Int) (hl : l.length ≤ 1048576) (k : Nat) (hk : l.length < k) : laws_eqIntS.f k l l = some true := by
  unfold laws_eqIntS.f
  rw [if_pos rfl]
  exact eqIl l hl l.length 0 (by omega) (by omega) k hk
theorem eqF (a : Int) (l : List Int) (hl : l.length ≤ 1048576) (k : Nat) (hk : l.length < k) : laws_eqFact.f k a l a l = some true := by
  unfold laws_eqFact.f
  rw [if_pos rfl, eqI l hl k hk]
  rfl

/-! ### the order of facts: a plain function, and that both texts compute it -/
theorem cmpSl (a b : List Int) (ha : a.length ≤ 1048576) (hb : b.length ≤ 1048576) (d : Nat) : ∀ (i : Nat), i + d = a.length → ∀ k, 2 * d + 1 < k → spec_l3Ints.l0 k a b i = some (cmpI (a.drop i) (b.drop i)) ∨ b.length < i := by
  induction d with
  | zero =>
    intro i hd k hk
    by_cases hbi : b.length < i
    · exact .inr hbi
    left
    obtain ⟨k, rfl⟩ : ∃ z, k = z + 2 := ⟨k - 2, by omega⟩
    rw [spec_l3Ints.l0, if_neg (by omega), spec_l3Ints.j1, if_neg (by decide), cmpI_end (.inl (List.drop_of_length_le (by omega))), List.length_drop, List.length_drop]
    by_cases h1 : (a.length : Int) < (b.length : Int)
    · rw [if_pos h1, if_pos (show a.length - i < b.length - i by omega)]
    · rw [if_neg h1, if_neg (show ¬ (a.length : Int) > (b.length : Int) by omega), if_neg (show ¬ a.length - i < b.length - i by omega), if_neg (show ¬ a.length - i > b.length - i by omega)]
  | succ d ih =>
    intro i hd k hk
    by_cases hbi : b.length < i
    · exact .inr hbi
    left
    obtain ⟨k, rfl⟩ : ∃ z, k = z + 2 := ⟨k - 2, by omega⟩
    rw [spec_l3Ints.l0, if_pos (by omega)]
    by_cases hlt : i < b.length
    · have e1 : wrap64 ((i : Int) + 1) = ((i + 1 : Nat) : Int) := by rw [w64 (by omega) (by omega)]; omega
      have e2 : rd a (i : Int) = a[i] := by unfold rd; rw [Int.toNat_natCast, getD_lt a _ i (by omega)]
      have e3 : rd b (i : Int) = b[i] := by unfold rd; rw [Int.toNat_natCast, getD_lt b _ i (by omega)]
      rw [decide_eq_true (by omega), spec_l3Ints.j1, if_pos rfl, if_pos (by omega), if_pos (by omega), if_pos (by omega), e1, e2, e3]
      rw [List.drop_eq_getElem_cons (i := i) (l := a) (by omega), List.drop_eq_getElem_cons (i := i) (l := b) (by omega), cmpI]
      by_cases h1 : a[i] < b[i]
      · rw [if_pos h1, if_pos h1]
      · rw [if_neg h1, if_neg h1]
        by_cases h2 : a[i] > b[i]
        · rw [if_pos h2, if_pos h2]
        · rw [if_neg h2, if_neg h2]
          rcases ih (i + 1) (by omega) k (by omega) with h | h
          · exact h
          · omega
    · rw [decide_eq_false (by omega), spec_l3Ints.j1, if_neg (by decide), cmpI_end (.inr (List.drop_of_length_le (by omega))), List.length_drop, List.length_drop]
      rw [if_neg (show ¬ (a.length : Int) < (b.length : Int) by omega), if_pos (show (a.length : Int) > (b.length : Int) by omega), if_neg (show ¬ a.length - i < b.length - i by omega), if_pos (show a.length - i > b.length - i by omega)]
theorem cmpS (a b : List Int) (ha : a.length ≤ 1048576) (hb : b.length ≤ 1048576) (k : Nat) (hk : 2 * a.length + 1 < k) : spec_l3Ints.f k a b = some (cmpI a b) := by
  rcases cmpSl a b ha hb a.length 0 (by omega) k hk with h | h
  · exact h
  · omega
theorem cmpFS (x : Int) (a : List Int) (y : Int) (b : List Int) (ha : a.length ≤ 1048576) (hb : b.length ≤ 1048576) (k : Nat) (hk : 2 * a.length + 1 < k) : spec_CompareFacts.f k x a y b = some (cmpF x a y b) := by
  unfold spec_CompareFacts.f cmpF
  by_cases h1 : x < y
  · rw [if_pos h1, if_pos h1]
  · rw [if_neg h1, if_neg h1]
    by_cases h2 : x > y
    · rw [if_pos h2, if_pos h2]
    · rw [if_neg h2, if_neg h2, cmpS a b ha hb k hk]
      rfl


/-! ### valid facts -/
/-- A fact of these relations: its relation is one of them, it has vs many values vs that one asks, each a value. -/
def fits (l : List S81) (a : Int) (vs : List Int) : Bool := decide (0 ≤ a ∧ a < (l.length : Int) ∧ (vs.length : Int) = (rd_T81 l a).f1) && !vs.any noVal
def vFact (l : List S81) (a : Int) (vs : List Int) : Bool := vRels l && fits l a vs
theorem in1 (x a b : Int) : spec_l1In.f x a b = some (decide (a ≤ x ∧ x ≤ b)) := by
  unfold spec_l1In.f
  by_cases h : a ≤ x
  · rw [if_pos h]; simp [h]
  · rw [if_neg h]; simp [h]
theorem vFSl (a : Int) (vs : List Int) (hs : vs.length ≤ 1048576) (d : Nat) : ∀ (i : Nat), i + d = vs.length → ∀ k, d < k → spec_IsValidFact.l0 k i a vs = some (!(vs.drop i).any noVal) := by
  induction d with
  | zero =>
    intro i hd k hk
    obtain ⟨k, rfl, hk⟩ := fuel hk
    rw [spec_IsValidFact.l0, if_neg (by omega), List.drop_of_length_le (by omega)]
    rfl
  | succ d ih =>
    intro i hd k hk
    obtain ⟨k, rfl, hk⟩ := fuel hk
    rw [spec_IsValidFact.l0, if_pos (by omega), if_pos (by omega), in1, Option.bind_some, List.drop_eq_getElem_cons (i := i) (l := vs) (by omega), List.any_cons]
    rw [show wrap64 ((i : Int) + 1) = ((i + 1 : Nat) : Int) by rw [w64 (by omega) (by omega)]; omega, show rd vs (i : Int) = vs[i] by unfold rd; rw [Int.toNat_natCast, getD_lt vs _ i (by omega)]]
    by_cases h : 0 ≤ vs[i] ∧ vs[i] ≤ 9
    · rw [if_pos (by simpa using h), ih (i + 1) (by omega) k (by omega)]
      have : noVal vs[i] = false := by simp [noVal, h]
      rw [this, Bool.false_or]
    · rw [if_neg (by simpa using h)]
      have : noVal vs[i] = true := by
        unfold noVal
        by_cases h1 : 0 ≤ vs[i]
        · have h2 : ¬ vs[i] ≤ 9 := fun h2 => h ⟨h1, h2⟩
          simp [h2]
        · simp [h1]
      rw [this, Bool.true_or]
      rfl
theorem vFS (l : List S81) (hl : l.length ≤ 1048576) (a : Int) (vs : List Int) (hs : vs.length ≤ 1048576) (k : Nat) (hk : vs.length + 1 < k) : spec_IsValidFact.f k l a vs = some (vFact l a vs) := by
  obtain ⟨k, rfl⟩ : ∃ z, k = z + 1 := ⟨k - 1, by omega⟩
  unfold spec_IsValidFact.f spec_AreValidRelations.f vFact fits
  rw [Option.bind_some, in1, Option.bind_some, w64 (by omega) (by omega)]
  by_cases h0 : vRels l = true
  · rw [if_pos h0]
    by_cases h1 : 0 ≤ a ∧ a < (l.length : Int)
    · rw [if_pos (by simpa using (by omega : 0 ≤ a ∧ a ≤ (l.length : Int) - 1)), if_pos h1.1, if_pos h1.2, spec_IsValidFact.j0]
      by_cases h2 : (vs.length : Int) = (rd_T81 l a).f1
      · rw [if_neg (by simpa using h2), show (0 : Int) = ((0 : Nat) : Int) from rfl, vFSl a vs hs vs.length 0 (by omega) k (by omega), h0, decide_eq_true (by exact ⟨h1.1, h1.2, h2⟩)]
        simp
      · rw [if_pos (by simpa using h2), decide_eq_false (by intro h; exact h2 h.2.2)]
        simp
    · rw [if_neg (by simpa using (by omega : 0 ≤ a → ¬ a ≤ (l.length : Int) - 1)), spec_IsValidFact.j0, if_pos rfl, decide_eq_false (by intro h; exact h1 ⟨h.1, h.2.1⟩)]
      simp
  · rw [if_neg h0, spec_IsValidFact.j0, if_pos rfl]
    simp [h0]
theorem fitI (l : List S81) (hl : l.length ≤ 1048576) (a : Int) (vs : List Int) : impl_isFact.f l a vs = some (fits l a vs) := by
  unfold impl_isFact.f impl_areValues.f fits
  rw [inI, Option.bind_some, Option.bind_some, w64 (by omega) (by omega)]
  by_cases h1 : 0 ≤ a ∧ a < (l.length : Int)
  · rw [if_pos (by unfold inB; simpa using (by omega : 0 ≤ a ∧ a ≤ (l.length : Int) - 1)), if_pos h1.1, if_pos h1.2]
    by_cases h2 : (vs.length : Int) = (rd_T81 l a).f1
    · rw [if_pos h2, decide_eq_true (by exact ⟨h1.1, h1.2, h2⟩)]
      simp
    · rw [if_neg h2, decide_eq_false (by intro h; exact h2 h.2.2)]
      simp
  · rw [if_neg (by unfold inB; simpa using (by omega : 0 ≤ a → ¬ a ≤ (l.length : Int) - 1)), decide_eq_false (by intro h; exact h1 ⟨h.1, h.2.1⟩)]
    simp

/-! ### lists of facts and databases: what the laws' own functions on them come to -/
theorem szFSl (l : List S24) (hl : l.length ≤ maxLen) (hg : ∀ y ∈ l, y.f1.length ≤ maxLen) (d : Nat) : ∀ (i : Nat) (v : Int), i + d = l.length → 0 ≤ v → v ≤ 1048576 → ∃ r, r ≤ v ∧ -1 ≤ r ∧ (0 ≤ r → ∀ j, i ≤ j → j < l.length → ((l.getD j z24).f1.length : Int) ≤ v) ∧ ∀ k, d < k → laws_szFactS.l0 k l v i = some r := by
  unfold maxLen at hl
  induction d with
  | zero =>
    intro i v hd hv _
    refine ⟨v, by omega, by omega, fun _ j h1 h2 => by omega, fun k hk => ?_⟩
    obtain ⟨k, rfl, hk⟩ := fuel hk
    rw [laws_szFactS.l0, if_neg (by omega)]
  | succ d ih =>
    intro i v hd hv hv1
    obtain ⟨r, hr, h1, h2, h3⟩ := szF (rd_T24 l i).f0 (rd_T24 l i).f1 v (hg _ (getD_mem l _ _ (by omega))) hv hv1
    by_cases hneg : r < 0
    · refine ⟨-1, by omega, by omega, fun h => absurd h (by decide), fun k hk => ?_⟩
      obtain ⟨k, rfl, hk⟩ := fuel hk
      rw [laws_szFactS.l0, if_pos (by omega), if_pos (by omega), hr, Option.bind_some, if_pos hneg]
    · obtain ⟨r', g1, g2, g3, g4⟩ := ih (i + 1) r (by omega) (by omega) (by omega)
      refine ⟨r', by omega, g2, fun h j j1 j2 => ?_, fun k hk => ?_⟩
      · by_cases hj : j = i
        · subst hj
          have := h3 (by omega)
          unfold rd_T24 at this
          rw [Int.toNat_natCast] at this
          exact this
        · exact Int.le_trans (g3 h j (by omega) j2) h1
      obtain ⟨k, rfl, hk⟩ := fuel hk
      rw [laws_szFactS.l0, if_pos (by omega), if_pos (by omega), hr, Option.bind_some, if_neg hneg, show wrap64 ((i : Int) + 1) = ((i + 1 : Nat) : Int) by rw [w64 (by omega) (by omega)]; omega]
      exact g4 k (by omega)
theorem szFS (l : List S24) (hl : l.length ≤ maxLen) (hg : ∀ y ∈ l, y.f1.length ≤ maxLen) (v : Int) (hv : 0 ≤ v) (hv1 : v ≤ 1048576) : ∃ r, r ≤ v ∧ -1 ≤ r ∧ (0 ≤ r → (l.length : Int) ≤ v ∧ ∀ y ∈ l, (y.f1.length : Int) ≤ v) ∧ ∀ k, l.length < k → laws_szFactS.f k l v = some r := by
  have hl' := hl
  unfold maxLen at hl'
  unfold laws_szFactS.f
  rw [w64 (by omega) (by omega)]
  by_cases h : v - (l.length : Int) < 0
  · exact ⟨-1, by omega, by omega, fun h => absurd h (by decide), fun k _ => if_pos h⟩
  · obtain ⟨r, h1, h2, h3, h4⟩ := szFSl l hl hg l.length 0 (v - l.length) (by omega) (by omega) (by omega)
    refine ⟨r, by omega, h2, fun h => ⟨by omega, fun y hy => ?_⟩, fun k hk => by rw [if_neg ‹_›]; exact h4 k hk⟩
    obtain ⟨j, hj, rfl⟩ := List.getElem_of_mem hy
    have := h3 h j (by omega) hj
    rw [getD_lt l _ j hj] at this
    omega
theorem szD (l : List S78) (fs : List S24) (hl : l.length ≤ maxLen) (hg : ∀ y ∈ l, y.f0.size ≤ maxLen) (hf : fs.length ≤ maxLen) (hh : ∀ y ∈ fs, y.f1.length ≤ maxLen) (v : Int) (hv : 0 ≤ v) (hv1 : v ≤ 1048576) :
    ∃ r, r ≤ v ∧ -1 ≤ r ∧ (0 ≤ r → (l.length : Int) ≤ v ∧ (fs.length : Int) ≤ v ∧ ∀ y ∈ fs, (y.f1.length : Int) ≤ v) ∧ ∀ k, l.length < k → fs.length < k → laws_szDatabase.f k l fs v = some r := by
  obtain ⟨r, h1, h2, h3, h4⟩ := szRS l hl hg v hv hv1
  by_cases hr : r < 0
  · exact ⟨-1, by omega, by omega, fun h => absurd h (by decide), fun k hk _ => by unfold laws_szDatabase.f; rw [h4 k hk, Option.bind_some, if_pos hr]⟩
  obtain ⟨r', g1, g2, g3, g4⟩ := szFS fs hf hh r (by omega) (by omega)
  by_cases hr' : r' < 0
  · exact ⟨-1, by omega, by omega, fun h => absurd h (by decide), fun k hk hk' => by unfold laws_szDatabase.f; rw [h4 k hk, Option.bind_some, if_neg hr, g4 k hk', Option.bind_some, if_pos hr']⟩
  · refine ⟨r', by omega, by omega, fun _ => ?_, fun k hk hk' => by unfold laws_szDatabase.f; rw [h4 k hk, Option.bind_some, if_neg hr, g4 k hk', Option.bind_some, if_neg hr']⟩
    obtain ⟨e1, e2⟩ := g3 (by omega)
    exact ⟨h3 (by omega), by omega, fun y hy => Int.le_trans (e2 y hy) h1⟩
theorem toFSl (l : List S24) (hl : l.length ≤ 1048576) (hg : ∀ y ∈ l, y.f1.length ≤ 1048576) (d : Nat) : ∀ (i : Nat) (xs : List S27), i + d = l.length → xs.length = l.length → xs.take i = (l.take i).map cvF → ∀ k, d + 1048577 < k → laws_toFactS.l0 k l xs i = some (l.map cvF) := by
  induction d with
  | zero =>
    intro i xs hd hx ht k hk
    obtain ⟨k, rfl, hk⟩ := fuel hk
    rw [laws_toFactS.l0, if_neg (by omega)]
    rw [List.take_of_length_le (by omega), List.take_of_length_le (by omega)] at ht
    rw [ht]
  | succ d ih =>
    intro i xs hd hx ht k hk
    obtain ⟨k, rfl, hk⟩ := fuel hk
    have hy := hg _ (getD_mem l z24 i (by omega))
    rw [laws_toFactS.l0, if_pos (by omega), if_pos (by omega)]
    unfold rd_T24
    rw [Int.toNat_natCast, toF _ _ hy k (by omega), Option.bind_some, if_pos (by omega), show wrap64 ((i : Int) + 1) = ((i + 1 : Nat) : Int) by rw [w64 (by omega) (by omega)]; omega]
    refine ih (i + 1) _ (by omega) (by simpa using hx) ?_ k (by omega)
    rw [take_set_succ _ _ _ (by omega), take_map_succ cvF z24 l i (by omega), ht]
    rfl
theorem toFS (l : List S24) (hl : l.length ≤ 1048576) (hg : ∀ y ∈ l, y.f1.length ≤ 1048576) (k : Nat) (hk : l.length + 1048577 < k) : laws_toFactS.f k l = some (l.map cvF) := by
  unfold laws_toFactS.f
  rw [if_pos (by omega), Int.toNat_natCast, if_pos (by omega)]
  exact toFSl l hl hg l.length 0 _ (by omega) (by simp) (by simp) k hk
theorem toD (l : List S78) (fs : List S24) (hl : l.length ≤ 1048576) (hf : fs.length ≤ 1048576) (hg : ∀ y ∈ fs, y.f1.length ≤ 1048576) (k : Nat) (hk : 2097154 < k) : laws_toDatabase.f k l fs = some (l.map cvR, fs.map cvF) := by
  unfold laws_toDatabase.f
  rw [toRS l hl k (by omega), Option.bind_some, toFS fs hf hg k (by omega), Option.bind_some]
theorem eqFSl (l : List S27) (hl : l.length ≤ 1048576) (hg : ∀ y ∈ l, y.f1.length ≤ 1048576) (d : Nat) : ∀ (i : Nat), i + d = l.length → ∀ k, d + 1048577 < k → laws_eqFactS.l0 k l l i = some true := by
  induction d with
  | zero =>
    intro i hd k hk
    obtain ⟨k, rfl, hk⟩ := fuel hk
    rw [laws_eqFactS.l0, if_neg (by omega)]
  | succ d ih =>
    intro i hd k hk
    obtain ⟨k, rfl, hk⟩ := fuel hk
    have hy := hg _ (getD_mem l z27 i (by omega))
    rw [laws_eqFactS.l0, if_pos (by omega), if_pos (by omega), if_pos (by omega)]
    unfold rd_T27
    rw [Int.toNat_natCast, eqF _ _ hy k (by omega), Option.bind_some, if_pos rfl, show wrap64 ((i : Int) + 1) = ((i + 1 : Nat) : Int) by rw [w64 (by omega) (by omega)]; omega]
    exact ih (i + 1) (by omega) k (by omega)
theorem eqFS (l : List S27) (hl : l.length ≤ 1048576) (hg : ∀ y ∈ l, y.f1.length ≤ 1048576) (k : Nat) (hk : l.length + 1048577 < k) : laws_eqFactS.f k l l = some true := by
  unfold laws_eqFactS.f
  rw [if_pos rfl]
  exact eqFSl l hl hg l.length 0 (by omega) k hk
theorem eqD (l : List S81) (fs : List S27) (hl : l.length ≤ 1048576) (hf : fs.length ≤ 1048576) (hg : ∀ y ∈ fs, y.f1.length ≤ 1048576) (k : Nat) (hk : 2097154 < k) : laws_eqDatabase.f k l fs l fs = some true := by
  unfold laws_eqDatabase.f
  rw [eqRS l hl k (by omega), Option.bind_some, if_pos rfl, eqFS fs hf hg k (by omega), Option.bind_some, if_pos rfl]
theorem cvFg (fs : List S24) (hg : ∀ y ∈ fs, y.f1.length ≤ 1048576) : ∀ y ∈ fs.map cvF, y.f1.length ≤ 1048576 := by
  intro y hy
  obtain ⟨x, hx, rfl⟩ := List.mem_map.1 hy
  exact hg x hx

/-! ### valid databases -/
/-- Facts i, i + 1, .. (d of them): each fits, each behind its forerunner. -/
def okFrom (l : List S81) (fs : List S27) : Nat → Nat → Bool
  | 0, _ => true
  | d + 1, i => fits l (fs.getD i z27).f0 (fs.getD i z27).f1 && (decide (i = 0) || decide (cmpF (fs.getD (i - 1) z27).f0 (fs.getD (i - 1) z27).f1 (fs.getD i z27).f0 (fs.getD i z27).f1 < 0)) && okFrom l fs d (i + 1)
def vDb (l : List S81) (fs : List S27) : Bool := vRels l && decide (fs.length ≤ 14) && okFrom l fs fs.length 0
theorem vDSl (l : List S81) (hl : l.length ≤ 1048576) (fs : List S27) (hf : fs.length ≤ 1048576) (hg : ∀ y ∈ fs, y.f1.length ≤ 1048576) (d : Nat) : ∀ (i : Nat), i + d = fs.length → ∀ k, d + 4000000 < k → spec_IsValidDatabase.l0 k i l fs = some (vRels l && decide (fs.length ≤ 14) && okFrom l fs d i) := by
  induction d with
  | zero =>
    intro i hd k hk
    obtain ⟨k, rfl, hk⟩ := fuel hk
    rw [spec_IsValidDatabase.l0, if_neg (by omega)]
    unfold spec_AreValidRelations.f
    rw [Option.bind_some]
    by_cases h : vRels l = true
    · rw [if_pos h, h, okFrom]
      simp only [Bool.true_and, Bool.and_true]
      congr 2
      exact propext (by omega)
    · rw [if_neg h]; simp [h]
  | succ d ih =>
    intro i hd k hk
    obtain ⟨k, rfl, hk⟩ := fuel hk
    have hy := hg _ (getD_mem fs z27 i (by omega))
    rw [spec_IsValidDatabase.l0, if_pos (by omega), if_pos (by omega)]
    unfold rd_T27
    rw [Int.toNat_natCast, vFS l hl _ _ hy k (by omega), Option.bind_some, okFrom]
    unfold vFact
    by_cases h0 : vRels l = true
    · by_cases h1 : fits l (fs.getD i z27).f0 (fs.getD i z27).f1 = true
      · rw [h0, h1, Bool.true_and, if_pos rfl]
        by_cases hi : i = 0
        · rw [if_neg (by omega), show wrap64 ((i : Int) + 1) = ((i + 1 : Nat) : Int) by rw [w64 (by omega) (by omega)]; omega, ih (i + 1) (by omega) k (by omega), h0, decide_eq_true hi]
          simp
        · have hy' := hg _ (getD_mem fs z27 (i - 1) (by omega))
          have ew : wrap64 ((i : Int) - 1) = ((i - 1 : Nat) : Int) := by rw [w64 (by omega) (by omega)]; omega
          rw [if_pos (by omega), ew, if_pos (by omega), if_pos (by omega), Int.toNat_natCast, cmpFS _ _ _ _ hy' hy k (by omega), Option.bind_some, decide_eq_false hi]
          by_cases hc : cmpF (fs.getD (i - 1) z27).f0 (fs.getD (i - 1) z27).f1 (fs.getD i z27).f0 (fs.getD i z27).f1 < 0
          · rw [if_neg (by omega), show wrap64 ((i : Int) + 1) = ((i + 1 : Nat) : Int) by rw [w64 (by omega) (by omega)]; omega, ih (i + 1) (by omega) k (by omega), h0, decide_eq_true hc]
            simp
          · rw [if_pos (by omega), decide_eq_false hc]
            simp
      · rw [Bool.eq_false_iff.2 h1, Bool.and_false, if_neg (by decide)]
        simp
    · rw [if_neg (by simp [h0])]
      simp [h0]
theorem vDS (l : List S81) (hl : l.length ≤ 1048576) (fs : List S27) (hf : fs.length ≤ 1048576) (hg : ∀ y ∈ fs, y.f1.length ≤ 1048576) (k : Nat) (hk : 6000000 < k) : spec_IsValidDatabase.f k l fs = some (vDb l fs) := by
  unfold spec_IsValidDatabase.f vDb
  exact vDSl l hl fs hf hg fs.length 0 (by omega) k (by omega)
theorem vDIl (l : List S81) (hl : l.length ≤ 1048576) (fs : List S27) (hf : fs.length ≤ 1048576) (hg : ∀ y ∈ fs, y.f1.length ≤ 1048576) (d : Nat) : ∀ (i : Nat), i + d = fs.length → ∀ k, d + 4000000 < k → impl_IsValidDatabase.l0 k fs fs.length i l fs = some (okFrom l fs d i) := by
  induction d with
  | zero =>
    intro i hd k hk
    obtain ⟨k, rfl, hk⟩ := fuel hk
    rw [impl_IsValidDatabase.l0, if_neg (by omega), okFrom]
  | succ d ih =>
    intro i hd k hk
    obtain ⟨k, rfl, hk⟩ := fuel hk
    have hy := hg _ (getD_mem fs z27 i (by omega))
    rw [impl_IsValidDatabase.l0, if_pos (by omega), if_pos (by omega), if_pos (by omega)]
    unfold rd_T27
    rw [Int.toNat_natCast, fitI l hl, Option.bind_some, okFrom]
    by_cases h1 : fits l (fs.getD i z27).f0 (fs.getD i z27).f1 = true
    · rw [h1, if_pos rfl]
      by_cases hi : i = 0
      · rw [if_neg (by omega), show wrap64 ((i : Int) + 1) = ((i + 1 : Nat) : Int) by rw [w64 (by omega) (by omega)]; omega, ih (i + 1) (by omega) k (by omega), decide_eq_true hi]
        simp
      · have hy' := hg _ (getD_mem fs z27 (i - 1) (by omega))
        have ew : wrap64 ((i : Int) - 1) = ((i - 1 : Nat) : Int) := by rw [w64 (by omega) (by omega)]; omega
        rw [if_pos (by omega), ew, if_pos (by omega), if_pos (by omega), Int.toNat_natCast, cmpFI _ _ _ _ (by omega) (by omega) k (by omega), Option.bind_some, decide_eq_false hi]
        by_cases hc : cmpF (fs.getD (i - 1) z27).f0 (fs.getD (i - 1) z27).f1 (fs.getD i z27).f0 (fs.getD i z27).f1 < 0
        · rw [if_neg (by omega), show wrap64 ((i : Int) + 1) = ((i + 1 : Nat) : Int) by rw [w64 (by omega) (by omega)]; omega, ih (i + 1) (by omega) k (by omega), decide_eq_true hc]
          simp
        · rw [if_pos (by omega), decide_eq_false hc]
          simp
    · rw [if_neg h1, Bool.eq_false_iff.2 h1]
      simp
theorem vDI (l : List S81) (hl : l.length ≤ 1048576) (fs : List S27) (hf : fs.length ≤ 1048576) (hg : ∀ y ∈ fs, y.f1.length ≤ 1048576) (k : Nat) (hk : 6000000 < k) : impl_IsValidDatabase.f k l fs = some (vDb l fs) := by
  obtain ⟨k, rfl⟩ : ∃ z, k = z + 1 := ⟨k - 1, by omega⟩
  unfold impl_IsValidDatabase.f vDb impl_AreValidRelations.f
  rw [Option.bind_some]
  by_cases h0 : vRels l = true
  · rw [if_pos h0, h0, impl_IsValidDatabase.j0]
    by_cases h1 : fs.length ≤ 14
    · rw [if_neg (by simpa using (by omega : (fs.length : Int) ≤ 14)), show (0 : Int) = ((0 : Nat) : Int) from rfl, vDIl l hl fs hf hg fs.length 0 (by omega) k (by omega), decide_eq_true h1]
      simp
    · rw [if_pos (by simpa using (by omega : (14 : Int) < fs.length)), decide_eq_false h1]
      simp
  · rw [if_neg h0, impl_IsValidDatabase.j0, if_pos rfl]
    simp [h0]

/-! ### the place of a fact -/
theorem fidxSl (l : List S81) (fs : List S27) (hf : fs.length ≤ 1048576) (hg : ∀ y ∈ fs, y.f1.length ≤ 1048576) (a : Int) (vs : List Int) (hv : vs.length ≤ 1048576) (d : Nat) : ∀ (i : Nat), i + d = fs.length → ∀ k, d + 2097160 < k → spec_FactIndex.l0 k i l fs a vs = some (idxW (factIs a vs) (fs.drop i) i) := by
  induction d with
  | zero =>
    intro i hd k hk
    obtain ⟨k, rfl, hk⟩ := fuel hk
    rw [spec_FactIndex.l0, if_neg (by omega), List.drop_of_length_le (by omega)]
    rfl
  | succ d ih =>
    intro i hd k hk
    obtain ⟨k, rfl, hk⟩ := fuel hk
    have hy := hg _ (getD_mem fs z27 i (by omega))
    have e1 : wrap64 ((i : Int) + 1) = ((i + 1 : Nat) : Int) := by rw [w64 (by omega) (by omega)]; omega
    rw [spec_FactIndex.l0, if_pos (by omega), if_pos (by omega), e1]
    unfold rd_T27
    rw [Int.toNat_natCast, cmpFS _ _ _ _ hy hv k (by omega), Option.bind_some, List.drop_eq_getElem_cons (by omega), idxW, getD_lt fs _ i (by omega)]
    unfold factIs
    by_cases h : cmpF fs[i].f0 fs[i].f1 a vs = 0
    · rw [if_pos h, if_pos (by simpa using h)]
    · rw [if_neg h, if_neg (by simpa using h), ih (i + 1) (by omega) k (by omega)]
      unfold factIs
      rfl
theorem fidxS (l : List S81) (fs : List S27) (hf : fs.length ≤ 1048576) (hg : ∀ y ∈ fs, y.f1.length ≤ 1048576) (a : Int) (vs : List Int) (hv : vs.length ≤ 1048576) (k : Nat) (hk : 4000000 < k) : spec_FactIndex.f k l fs a vs = some (idxW (factIs a vs) fs 0) := by
  unfold spec_FactIndex.f
  exact fidxSl l fs hf hg a vs hv fs.length 0 (by omega) k (by omega)

theorem hasS (l : List S81) (hl : l.length ≤ 1048576) (fs : List S27) (hf : fs.length ≤ 1048576) (hg : ∀ y ∈ fs, y.f1.length ≤ 1048576) (a : Int) (vs : List Int) (hv : vs.length ≤ 1048576) (k : Nat) (hk : 8000000 < k) : spec_ContainsFact.f k l fs a vs = some (vDb l fs && decide (idxW (factIs a vs) fs 0 ≥ 0)) := by
  unfold spec_ContainsFact.f
  rw [vDS l hl fs hf hg k (by omega), Option.bind_some]
  by_cases h : vDb l fs = true
  · rw [if_pos h, fidxS l fs hf hg a vs hv k (by omega), Option.bind_some, h, Bool.true_and]
  · rw [if_neg h, Bool.eq_false_iff.2 h, Bool.false_and]
theorem hasI (l : List S81) (hl : l.length ≤ 1048576) (fs : List S27) (hf : fs.length ≤ 1048576) (hg : ∀ y ∈ fs, y.f1.length ≤ 1048576) (a : Int) (vs : List Int) (k : Nat) (hk : 8000000 < k) : impl_ContainsFact.f k l fs a vs = some (vDb l fs && decide (idxW (factIs a vs) fs 0 ≥ 0)) := by
  unfold impl_ContainsFact.f impl_FactIndex.f
  rw [vDI l hl fs hf hg k (by omega), Option.bind_some]
  by_cases h : vDb l fs = true
  · rw [if_pos h, Option.bind_some, h, Bool.true_and]
  · rw [if_neg h, Bool.eq_false_iff.2 h, Bool.false_and]


theorem FnExactContainsFact : FnExactContainsFactPure := by
  intro x y hx hy
  obtain ⟨r, h1, h2, h3, h4⟩ := szD x.f0 x.f1 hx.1.1 (fun y hy => (hx.1.2 y hy).1) hx.2.1 (fun y hy => (hx.2.2 y hy).2.1) 1048576 (by omega) (by omega)
  by_cases hr : r < 0
  · refine ⟨x.f0.length + x.f1.length + 1, ?_⟩
    unfold laws_FnExactContainsFact.f
    rw [h4 _ (by omega) (by omega), Option.bind_some, if_pos hr]
  obtain ⟨r', g1, g2, g3, g4⟩ := szF y.f0 y.f1 r hy.2.1 (by omega) (by omega)
  by_cases hr' : r' < 0
  · refine ⟨x.f0.length + x.f1.length + 1, ?_⟩
    unfold laws_FnExactContainsFact.f
    rw [h4 _ (by omega) (by omega), Option.bind_some, if_neg hr, g1, Option.bind_some, if_pos hr']
  obtain ⟨hl, hf, hg⟩ := h3 (by omega)
  have hl : x.f0.length ≤ 1048576 := by omega
  have hf : x.f1.length ≤ 1048576 := by omega
  have hg : ∀ y ∈ x.f1, y.f1.length ≤ 1048576 := fun y hy => by have := hg y hy; omega
  have hy' : y.f1.length ≤ 1048576 := by have := g4 (by omega); omega
  have hml : (x.f0.map cvR).length = x.f0.length := by simp
  have hmf : (x.f1.map cvF).length = x.f1.length := by simp
  have hmg := cvFg x.f1 hg
  refine ⟨9000001, ?_⟩
  generalize hk : (9000001 : Nat) = k
  unfold laws_FnExactContainsFact.f
  rw [h4 _ (by omega) (by omega), Option.bind_some, if_neg hr, g1, Option.bind_some, if_neg hr', toD _ _ hl hf hg _ (by omega), toF _ _ hy' _ (by omega)]
  simp only [Option.bind_some]
  rw [hasS _ (by omega) _ (by omega) hmg _ _ hy' _ (by omega), hasI _ (by omega) _ (by omega) hmg _ _ _ (by omega), eqD _ _ (by omega) (by omega) hmg _ (by omega), eqF _ _ hy' _ (by omega)]
  simp

end Go.Proofs.Ytddeflhambegiaa.Pure
