/- The law FnExactNextRepair answers true for every input that the row admits: both texts answer alike, the arguments are left as they were, and the results are memory of their own. -/
import Derived.Test.YtehlhbidmanbmaaGFnExactNextRepair
import Derived.Test.YtehlhbidmanbmaaBase
namespace Go.Proofs.Ytehlhbidmanbmaa.Pure
open Go.RowKit Go.Proofs.Ytehlhbidmanbmaa.PFnExactNextRepair Go.Proofs.YtehlhbidmanbmaaW.PrintWords Go.Proofs.YtehlhbidmanbmaaW.PrintLast Go.Proofs.YtehlhbidmanbmaaW.PrintMore Go.Proofs.Ytehlhbidmanbmaa.Base
set_option linter.unusedVariables false
set_option linter.unusedSimpArgs false

/-! ### relations: what the laws' own functions on them come to -/
def cvR (x : S85) : S86 := ⟨x.f0, x.f1, x.f2⟩

theorem szR (n a b v : _) (hn : n.size ≤ maxLen) (hv : 0 ≤ v) (hv1 : v ≤ 1048576) : ∃ r, laws_szRelation.f n a b v = some r ∧ r ≤ v ∧ -1 ≤ r ∧ (0 ≤ r → (n.size : Int) ≤ v) := by
  unfold maxLen at hn
  unfold laws_szRelation.f
  rw [w64 (by omega) (by omega)]
  by_cases h : v - (n.size : Int) < 0
  · exact ⟨-1, if_pos h, by omega, by omega, fun h => absurd h (by decide)⟩
  · exact ⟨_, if_neg h, by omega, by omega, fun _ => by omega⟩

theorem szRSl (l : List S85) (hl : l.length ≤ maxLen) (hg : ∀ y ∈ l, y.f0.size ≤ maxLen) (d : Nat) : ∀ (i v : Int), 0 ≤ i → (l.length : Int) - i = d → 0 ≤ v → v ≤ 1048576 → ∃ r, r ≤ v ∧ -1 ≤ r ∧ ∀ k, d < k → laws_szRelationS.l0 k l v i = some r := by
  unfold maxLen at hl
  induction d with
  | zero =>
    intro i v h0 hd hv _
    refine ⟨v, by omega, by omega, fun k hk => ?_⟩
    obtain ⟨k, rfl, hk⟩ := fuel hk
    rw [laws_szRelationS.l0, if_neg (by omega)]
  | succ d ih =>
    intro i v h0 hd hv hv1
    obtain ⟨r, hr, h1, h2, _⟩ := szR (rd_T85 l i).f0 (rd_T85 l i).f1 (rd_T85 l i).f2 v (hg _ (getD_mem l _ _ (by omega))) hv hv1
    by_cases hneg : r < 0
    · refine ⟨-1, by omega, by omega, fun k hk => ?_⟩
      obtain ⟨k, rfl, hk⟩ := fuel hk
      rw [laws_szRelationS.l0, if_pos (by omega), if_pos h0, hr]
      simp only [Option.bind_some]
      rw [if_pos hneg]
    · obtain ⟨r', h3, h4, h5⟩ := ih (i + 1) r (by omega) (by omega) (by omega) (by omega)
      refine ⟨r', by omega, h4, fun k hk => ?_⟩
      obtain ⟨k, rfl, hk⟩ := fuel hk
      rw [laws_szRelationS.l0, if_pos (by omega), if_pos h0, hr]
      simp only [Option.bind_some]
      rw [if_neg hneg, w64 (by omega) (by omega)]
      exact h5 k (by omega)

theorem szRS (l : List S85) (hl : l.length ≤ maxLen) (hg : ∀ y ∈ l, y.f0.size ≤ maxLen) (v : Int) (hv : 0 ≤ v) (hv1 : v ≤ 1048576) : ∃ r, r ≤ v ∧ -1 ≤ r ∧ (0 ≤ r → (l.length : Int) ≤ v) ∧ ∀ k, l.length < k → laws_szRelationS.f k l v = some r := by
  have hl' := hl
  unfold maxLen at hl'
  unfold laws_szRelationS.f
  rw [w64 (by omega) (by omega)]
  by_cases h : v - (l.length : Int) < 0
  · exact ⟨-1, by omega, by omega, fun h => absurd h (by decide), fun k _ => if_pos h⟩
  · obtain ⟨r, h1, h2, h3⟩ := szRSl l hl hg l.length 0 (v - l.length) (by omega) (by omega) (by omega) (by omega)
    exact ⟨r, by omega, h2, fun _ => by omega, fun k hk => by rw [if_neg h]; exact h3 k hk⟩

theorem toRSl (l : List S85) (hl : l.length ≤ 1048576) (d : Nat) : ∀ (i : Nat) (xs : List S86), (l.length : Int) - i = d → xs.length = l.length → xs.take i = (l.take i).map cvR → ∀ k, d < k → laws_toRelationS.l0 k l xs i = some (l.map cvR) := by
  induction d with
  | zero =>
    intro i xs hd hx ht k hk
    obtain ⟨k, rfl, hk⟩ := fuel hk
    rw [laws_toRelationS.l0, if_neg (by omega)]
    rw [List.take_of_length_le (by omega), List.take_of_length_le (by omega)] at ht
    rw [ht]
  | succ d ih =>
    intro i xs hd hx ht k hk
    obtain ⟨k, rfl, hk⟩ := fuel hk
    rw [laws_toRelationS.l0, if_pos (by omega), if_pos (by omega), laws_toRelation.f]
    simp only [Option.bind_some]
    rw [if_pos (by omega), show wrap64 ((i : Int) + 1) = ((i + 1 : Nat) : Int) by rw [w64 (by omega) (by omega)]; omega]
    refine ih (i + 1) _ (by omega) (by simpa using hx) ?_ k (by omega)
    rw [Int.toNat_natCast, take_set_succ _ _ _ (by omega), take_map_succ cvR z85 l i (by omega), ht]
    rfl

theorem toRS (l : List S85) (hl : l.length ≤ 1048576) (k : Nat) (hk : l.length < k) : laws_toRelationS.f k l = some (l.map cvR) := by
  unfold laws_toRelationS.f
  rw [if_pos (by omega), Int.toNat_natCast, if_pos (by omega)]
  exact toRSl l hl l.length 0 _ (by omega) (by simp) (by simp) k hk

theorem eqR (a : S86) : laws_eqRelation.f a.f0 a.f1 a.f2 a.f0 a.f1 a.f2 = some true := by
  unfold laws_eqRelation.f
  rw [if_pos rfl, if_pos rfl, if_pos rfl]
theorem eqRSl (l : List S86) (hl : l.length ≤ 1048576) (d : Nat) : ∀ (i : Int), 0 ≤ i → (l.length : Int) - i = d → ∀ k, d < k → laws_eqRelationS.l0 k l l i = some true := by
  induction d with
  | zero =>
    intro i h0 hd k hk
    obtain ⟨k, rfl, hk⟩ := fuel hk
    rw [laws_eqRelationS.l0, if_neg (by omega)]
  | succ d ih =>
    intro i h0 hd k hk
    obtain ⟨k, rfl, hk⟩ := fuel hk
    rw [laws_eqRelationS.l0, if_pos (by omega), if_pos h0, if_pos (by omega), eqR]
    simp only [Option.bind_some, if_true]
    rw [w64 (by omega) (by omega)]
    exact ih (i + 1) (by omega) (by omega) k (by omega)
theorem eqRS (l : List S86) (hl : l.length ≤ 1048576) (k : Nat) (hk : l.length < k) : laws_eqRelationS.f k l l = some true := by
  unfold laws_eqRelationS.f
  rw [if_pos rfl]
  exact eqRSl l hl l.length 0 (by omega) (by omega) k hk

/-! ### facts: what the laws' own functions on them come to -/
def cvF (x : S47) : S50 := ⟨x.f0, x.f1⟩
theorem szI (l : List Int) (v : Int) (hl : l.length ≤ maxLen) (hv : 0 ≤ v) (hv1 : v ≤ 1048576) : ∃ r, laws_szIntS.f l v = some r ∧ r ≤ v ∧ -1 ≤ r ∧ (0 ≤ r → (l.length : Int) ≤ v) := by
  unfold maxLen at hl
  unfold laws_szIntS.f
  rw [w64 (by omega) (by omega)]
  by_cases h : v - (l.length : Int) < 0
  · exact ⟨-1, if_pos h, by omega, by omega, fun h => absurd h (by decide)⟩
  · exact ⟨_, if_neg h, by omega, by omega, fun _ => by omega⟩
theorem szF (a : Int) (l : List Int) (v : Int) (hl : l.length ≤ maxLen) (hv : 0 ≤ v) (hv1 : v ≤ 1048576) : ∃ r, laws_szFact.f a l v = some r ∧ r ≤ v ∧ -1 ≤ r ∧ (0 ≤ r → (l.length : Int) ≤ v) := by
  obtain ⟨r, h1, h2, h3, h4⟩ := szI l v hl hv hv1
  unfold laws_szFact.f
  rw [h1]
  simp only [Option.bind_some]
  by_cases h : r < 0
  · exact ⟨-1, if_pos h, by omega, by omega, fun h => absurd h (by decide)⟩
  · exact ⟨r, if_neg h, h2, h3, h4⟩
/-! ### lists of numbers: what the laws' own functions on them come to -/
theorem toIl (l : List Int) (hl : l.length ≤ 1048576) (d : Nat) : ∀ (i : Nat) (xs : List Int), (l.length : Int) - i = d → xs.length = l.length → xs.take i = l.take i → ∀ k, d < k → laws_toIntS.l0 k l xs i = some l := by
  induction d with
  | zero =>
    intro i xs hd hx ht k hk
    obtain ⟨k, rfl, hk⟩ := fuel hk
    rw [laws_toIntS.l0, if_neg (by omega)]
    rw [List.take_of_length_le (by omega), List.take_of_length_le (by omega)] at ht
    rw [ht]
  | succ d ih =>
    intro i xs hd hx ht k hk
    obtain ⟨k, rfl, hk⟩ := fuel hk
    rw [laws_toIntS.l0, if_pos (by omega), if_pos (by omega), if_pos (by omega), show wrap64 ((i : Int) + 1) = ((i + 1 : Nat) : Int) by rw [w64 (by omega) (by omega)]; omega]
    refine ih (i + 1) _ (by omega) (by simpa using hx) ?_ k (by omega)
    rw [Int.toNat_natCast, take_set_succ _ _ _ (by omega), ht, List.take_succ_eq_append_getElem (by omega)]
    congr 2
    unfold rd
    rw [Int.toNat_natCast, getD_lt l _ i (by omega)]
theorem toI (l : List Int) (hl : l.length ≤ 1048576) (k : Nat) (hk : l.length < k) : laws_toIntS.f k l = some l := by
  unfold laws_toIntS.f
  rw [if_pos (by omega), Int.toNat_natCast, if_pos (by omega)]
  exact toIl l hl l.length 0 _ (by omega) (by simp) (by simp) k hk
theorem eqIl (l : List Int) (hl : l.length ≤ 1048576) (d : Nat) : ∀ (i : Int), 0 ≤ i → (l.length : Int) - i = d → ∀ k, d < k → laws_eqIntS.l0 k l l i = some true := by
  induction d with
  | zero =>
    intro i h0 hd k hk
    obtain ⟨k, rfl, hk⟩ := fuel hk
    rw [laws_eqIntS.l0, if_neg (by omega)]
  | succ d ih =>
    intro i h0 hd k hk
    obtain ⟨k, rfl, hk⟩ := fuel hk
    rw [laws_eqIntS.l0, if_pos (by omega), if_pos h0, if_pos (by omega), if_pos rfl, w64 (by omega) (by omega)]
    exact ih (i + 1) (by omega) (by omega) k (by omega)
theorem eqI (l : List Int) (hl : l.length ≤ 1048576) (k : Nat) (hk : l.length < k) : laws_eqIntS.f k l l = some true := by
  unfold laws_eqIntS.f
  rw [if_pos rfl]
  exact eqIl l hl l.length 0 (by omega) (by omega) k hk

theorem toF (a : Int) (l : List Int) (hl : l.length ≤ 1048576) (k : Nat) (hk : l.length < k) : laws_toFact.f k a l = some (a, l) := by
  unfold laws_toFact.f
  rw [toI l hl k hk]
  rfl
theorem eqF (a : Int) (l : List Int) (hl : l.length ≤ 1048576) (k : Nat) (hk : l.length < k) : laws_eqFact.f k a l a l = some true := by
  unfold laws_eqFact.f
  rw [if_pos rfl, eqI l hl k hk]
  rfl

/-! ### the order of facts: a plain function, and that both texts compute it -/
theorem cmpSl (a b : List Int) (ha : a.length ≤ 1048576) (hb : b.length ≤ 1048576) (d : Nat) : ∀ (i : Nat), i + d = a.length → ∀ k, 2 * d + 1 < k → spec_l3Ints.l0 k a b i = some (cmpI (a.drop i) (b.drop i)) ∨ b.length < i := by
  induction d with
  | zero =>
    intro i hd k hk
    by_cases hbi : b.length < i
    · exact .inr hbi
    left
    obtain ⟨k, rfl⟩ : ∃ z, k = z + 2 := ⟨k - 2, by omega⟩
    rw [spec_l3Ints.l0, if_neg (by omega), spec_l3Ints.j1, if_neg (by decide), cmpI_end (.inl (List.drop_of_length_le (by omega))), List.length_drop, List.length_drop]
    by_cases h1 : (a.length : Int) < (b.length : Int)
    · rw [if_pos h1, if_pos (show a.length - i < b.length - i by omega)]
    · rw [if_neg h1, if_neg (show ¬ (a.length : Int) > (b.length : Int) by omega), if_neg (show ¬ a.length - i < b.length - i by omega), if_neg (show ¬ a.length - i > b.length - i by omega)]
  | succ d ih =>
    intro i hd k hk
    by_cases hbi : b.length < i
    · exact .inr hbi
    left
    obtain ⟨k, rfl⟩ : ∃ z, k = z + 2 := ⟨k - 2, by omega⟩
    rw [spec_l3Ints.l0, if_pos (by omega)]
    by_cases hlt : i < b.length
    · have e1 : wrap64 ((i : Int) + 1) = ((i + 1 : Nat) : Int) := by rw [w64 (by omega) (by omega)]; omega
      have e2 : rd a (i : Int) = a[i] := by unfold rd; rw [Int.toNat_natCast, getD_lt a _ i (by omega)]
      have e3 : rd b (i : Int) = b[i] := by unfold rd; rw [Int.toNat_natCast, getD_lt b _ i (by omega)]
      rw [decide_eq_true (by omega), spec_l3Ints.j1, if_pos rfl, if_pos (by omega), if_pos (by omega), if_pos (by omega), e1, e2, e3]
      rw [List.drop_eq_getElem_cons (i := i) (l := a) (by omega), List.drop_eq_getElem_cons (i := i) (l := b) (by omega), cmpI]
      by_cases h1 : a[i] < b[i]
      · rw [if_pos h1, if_pos h1]
      · rw [if_neg h1, if_neg h1]
        by_cases h2 : a[i] > b[i]
        · rw [if_pos h2, if_pos h2]
        · rw [if_neg h2, if_neg h2]
          rcases ih (i + 1) (by omega) k (by omega) with h | h
          · exact h
          · omega
    · rw [decide_eq_false (by omega), spec_l3Ints.j1, if_neg (by decide), cmpI_end (.inr (List.drop_of_length_le (by omega))), List.length_drop, List.length_drop]
      rw [if_neg (show ¬ (a.length : Int) < (b.length : Int) by omega), if_pos (show (a.length : Int) > (b.length : Int) by omega), if_neg (show ¬ a.length - i < b.length - i by omega), if_pos (show a.length - i > b.length - i by omega)]
theorem cmpS (a b : List Int) (ha : a.length ≤ 1048576) (hb : b.length ≤ 1048576) (k : Nat) (hk : 2 * a.length + 1 < k) : spec_l3Ints.f k a b = some (cmpI a b) := by
  rcases cmpSl a b ha hb a.length 0 (by omega) k hk with h | h
  · exact h
  · omega
theorem cmpFS (x : Int) (a : List Int) (y : Int) (b : List Int) (ha : a.length ≤ 1048576) (hb : b.length ≤ 1048576) (k : Nat) (hk : 2 * a.length + 1 < k) : spec_CompareFacts.f k x a y b = some (cmpF x a y b) := by
  unfold spec_CompareFacts.f cmpF
  by_cases h1 : x < y
  · rw [if_pos h1, if_pos h1]
  · rw [if_neg h1, if_neg h1]
    by_cases h2 : x > y
    · rw [if_pos h2, if_pos h2]
    · rw [if_neg h2, if_neg h2, cmpS a b ha hb k hk]
      rfl


/-! ### valid facts -/

theorem in1 (x a b : Int) : spec_l1In.f x a b = some (decide (a ≤ x ∧ x ≤ b)) := by
  unfold spec_l1In.f
  by_cases h : a ≤ x
  · rw [if_pos h]; simp [h]
  · rw [if_neg h]; simp [h]
theorem vFSl (a : Int) (vs : List Int) (hs : vs.length ≤ 1048576) (d : Nat) : ∀ (i : Nat), i + d = vs.length → ∀ k, d < k → spec_IsValidFact.l0 k i a vs = some (!(vs.drop i).any noVal) := by
  induction d with
  | zero =>
    intro i hd k hk
    obtain ⟨k, rfl, hk⟩ := fuel hk
    rw [spec_IsValidFact.l0, if_neg (by omega), List.drop_of_length_le (by omega)]
    rfl
  | succ d ih =>
    intro i hd k hk
    obtain ⟨k, rfl, hk⟩ := fuel hk
    rw [spec_IsValidFact.l0, if_pos (by omega), if_pos (by omega), in1, Option.bind_some, List.drop_eq_getElem_cons (i := i) (l := vs) (by omega), List.any_cons]
    rw [show wrap64 ((i : Int) + 1) = ((i + 1 : Nat) : Int) by rw [w64 (by omega) (by omega)]; omega, show rd vs (i : Int) = vs[i] by unfold rd; rw [Int.toNat_natCast, getD_lt vs _ i (by omega)]]
    by_cases h : 0 ≤ vs[i] ∧ vs[i] ≤ 9
    · rw [if_pos (by simpa using h), ih (i + 1) (by omega) k (by omega)]
      have : noVal vs[i] = false := by simp [noVal, h]
      rw [this, Bool.false_or]
    · rw [if_neg (by simpa using h)]
      have : noVal vs[i] = true := by
        unfold noVal
        by_cases h1 : 0 ≤ vs[i]
        · have h2 : ¬ vs[i] ≤ 9 := fun h2 => h ⟨h1, h2⟩
          simp [h2]
        · simp [h1]
      rw [this, Bool.true_or]
      rfl
theorem vFS (l : List S86) (hl : l.length ≤ 1048576) (a : Int) (vs : List Int) (hs : vs.length ≤ 1048576) (k : Nat) (hk : vs.length + 1 < k) : spec_IsValidFact.f k l a vs = some (vFact l a vs) := by
  obtain ⟨k, rfl⟩ : ∃ z, k = z + 1 := ⟨k - 1, by omega⟩
  unfold spec_IsValidFact.f spec_AreValidRelations.f vFact fits
  rw [Option.bind_some, in1, Option.bind_some, w64 (by omega) (by omega)]
  by_cases h0 : vRels l = true
  · rw [if_pos h0]
    by_cases h1 : 0 ≤ a ∧ a < (l.length : Int)
    · rw [if_pos (by simpa using (by omega : 0 ≤ a ∧ a ≤ (l.length : Int) - 1)), if_pos h1.1, if_pos h1.2, spec_IsValidFact.j0]
      by_cases h2 : (vs.length : Int) = (rd_T86 l a).f1
      · rw [if_neg (by simpa using h2), show (0 : Int) = ((0 : Nat) : Int) from rfl, vFSl a vs hs vs.length 0 (by omega) k (by omega), h0, decide_eq_true (by exact ⟨h1.1, h1.2, h2⟩)]
        simp
      · rw [if_pos (by simpa using h2), decide_eq_false (by intro h; exact h2 h.2.2)]
        simp
    · rw [if_neg (by simpa using (by omega : 0 ≤ a → ¬ a ≤ (l.length : Int) - 1)), spec_IsValidFact.j0, if_pos rfl, decide_eq_false (by intro h; exact h1 ⟨h.1, h.2.1⟩)]
      simp
  · rw [if_neg h0, spec_IsValidFact.j0, if_pos rfl]
    simp [h0]


/-! ### lists of facts and databases: what the laws' own functions on them come to -/
theorem szFSl (l : List S47) (hl : l.length ≤ maxLen) (hg : ∀ y ∈ l, y.f1.length ≤ maxLen) (d : Nat) : ∀ (i : Nat) (v : Int), i + d = l.length → 0 ≤ v → v ≤ 1048576 → ∃ r, r ≤ v ∧ -1 ≤ r ∧ (0 ≤ r → ∀ j, i ≤ j → j < l.length → ((l.getD j z47).f1.length : Int) ≤ v) ∧ ∀ k, d < k → laws_szFactS.l0 k l v i = some r := by
  unfold maxLen at hl
  induction d with
  | zero =>
    intro i v hd hv _
    refine ⟨v, by omega, by omega, fun _ j h1 h2 => by omega, fun k hk => ?_⟩
    obtain ⟨k, rfl, hk⟩ := fuel hk
    rw [laws_szFactS.l0, if_neg (by omega)]
  | succ d ih =>
    intro i v hd hv hv1
    obtain ⟨r, hr, h1, h2, h3⟩ := szF (rd_T47 l i).f0 (rd_T47 l i).f1 v (hg _ (getD_mem l _ _ (by omega))) hv hv1
    by_cases hneg : r < 0
    · refine ⟨-1, by omega, by omega, fun h => absurd h (by decide), fun k hk => ?_⟩
      obtain ⟨k, rfl, hk⟩ := fuel hk
      rw [laws_szFactS.l0, if_pos (by omega), if_pos (by omega), hr, Option.bind_some, if_pos hneg]
    · obtain ⟨r', g1, g2, g3, g4⟩ := ih (i + 1) r (by omega) (by omega) (by omega)
      refine ⟨r', by omega, g2, fun h j j1 j2 => ?_, fun k hk => ?_⟩
      · by_cases hj : j = i
        · subst hj
          have := h3 (by omega)
          unfold rd_T47 at this
          rw [Int.toNat_natCast] at this
          exact this
        · exact Int.le_trans (g3 h j (by omega) j2) h1
      obtain ⟨k, rfl, hk⟩ := fuel hk
      rw [laws_szFactS.l0, if_pos (by omega), if_pos (by omega), hr, Option.bind_some, if_neg hneg, show wrap64 ((i : Int) + 1) = ((i + 1 : Nat) : Int) by rw [w64 (by omega) (by omega)]; omega]
      exact g4 k (by omega)
theorem szFS (l : List S47) (hl : l.length ≤ maxLen) (hg : ∀ y ∈ l, y.f1.length ≤ maxLen) (v : Int) (hv : 0 ≤ v) (hv1 : v ≤ 1048576) : ∃ r, r ≤ v ∧ -1 ≤ r ∧ (0 ≤ r → (l.length : Int) ≤ v ∧ ∀ y ∈ l, (y.f1.length : Int) ≤ v) ∧ ∀ k, l.length < k → laws_szFactS.f k l v = some r := by
  have hl' := hl
  unfold maxLen at hl'
  unfold laws_szFactS.f
  rw [w64 (by omega) (by omega)]
  by_cases h : v - (l.length : Int) < 0
  · exact ⟨-1, by omega, by omega, fun h => absurd h (by decide), fun k _ => if_pos h⟩
  · obtain ⟨r, h1, h2, h3, h4⟩ := szFSl l hl hg l.length 0 (v - l.length) (by omega) (by omega) (by omega)
    refine ⟨r, by omega, h2, fun h => ⟨by omega, fun y hy => ?_⟩, fun k hk => by rw [if_neg ‹_›]; exact h4 k hk⟩
    obtain ⟨j, hj, rfl⟩ := List.getElem_of_mem hy
    have := h3 h j (by omega) hj
    rw [getD_lt l _ j hj] at this
    omega
theorem szD (l : List S85) (fs : List S47) (hl : l.length ≤ maxLen) (hg : ∀ y ∈ l, y.f0.size ≤ maxLen) (hf : fs.length ≤ maxLen) (hh : ∀ y ∈ fs, y.f1.length ≤ maxLen) (v : Int) (hv : 0 ≤ v) (hv1 : v ≤ 1048576) :
    ∃ r, r ≤ v ∧ -1 ≤ r ∧ (0 ≤ r → (l.length : Int) ≤ v ∧ (fs.length : Int) ≤ v ∧ ∀ y ∈ fs, (y.f1.length : Int) ≤ v) ∧ ∀ k, l.length < k → fs.length < k → laws_szDatabase.f k l fs v = some r := by
  obtain ⟨r, h1, h2, h3, h4⟩ := szRS l hl hg v hv hv1
  by_cases hr : r < 0
  · exact ⟨-1, by omega, by omega, fun h => absurd h (by decide), fun k hk _ => by unfold laws_szDatabase.f; rw [h4 k hk, Option.bind_some, if_pos hr]⟩
  obtain ⟨r', g1, g2, g3, g4⟩ := szFS fs hf hh r (by omega) (by omega)
  by_cases hr' : r' < 0
  · exact ⟨-1, by omega, by omega, fun h => absurd h (by decide), fun k hk hk' => by unfold laws_szDatabase.f; rw [h4 k hk, Option.bind_some, if_neg hr, g4 k hk', Option.bind_some, if_pos hr']⟩
  · refine ⟨r', by omega, by omega, fun _ => ?_, fun k hk hk' => by unfold laws_szDatabase.f; rw [h4 k hk, Option.bind_some, if_neg hr, g4 k hk', Option.bind_some, if_neg hr']⟩
    obtain ⟨e1, e2⟩ := g3 (by omega)
    exact ⟨h3 (by omega), by omega, fun y hy => Int.le_trans (e2 y hy) h1⟩
theorem toFSl (l : List S47) (hl : l.length ≤ 1048576) (hg : ∀ y ∈ l, y.f1.length ≤ 1048576) (d : Nat) : ∀ (i : Nat) (xs : List S50), i + d = l.length → xs.length = l.length → xs.take i = (l.take i).map cvF → ∀ k, d + 1048577 < k → laws_toFactS.l0 k l xs i = some (l.map cvF) := by
  induction d with
  | zero =>
    intro i xs hd hx ht k hk
    obtain ⟨k, rfl, hk⟩ := fuel hk
    rw [laws_toFactS.l0, if_neg (by omega)]
    rw [List.take_of_length_le (by omega), List.take_of_length_le (by omega)] at ht
    rw [ht]
  | succ d ih =>
    intro i xs hd hx ht k hk
    obtain ⟨k, rfl, hk⟩ := fuel hk
    have hy := hg _ (getD_mem l z47 i (by omega))
    rw [laws_toFactS.l0, if_pos (by omega), if_pos (by omega)]
    unfold rd_T47
    rw [Int.toNat_natCast, toF _ _ hy k (by omega), Option.bind_some, if_pos (by omega), show wrap64 ((i : Int) + 1) = ((i + 1 : Nat) : Int) by rw [w64 (by omega) (by omega)]; omega]
    refine ih (i + 1) _ (by omega) (by simpa using hx) ?_ k (by omega)
    rw [take_set_succ _ _ _ (by omega), take_map_succ cvF z47 l i (by omega), ht]
    rfl
theorem toFS (l : List S47) (hl : l.length ≤ 1048576) (hg : ∀ y ∈ l, y.f1.length ≤ 1048576) (k : Nat) (hk : l.length + 1048577 < k) : laws_toFactS.f k l = some (l.map cvF) := by
  unfold laws_toFactS.f
  rw [if_pos (by omega), Int.toNat_natCast, if_pos (by omega)]
  exact toFSl l hl hg l.length 0 _ (by omega) (by simp) (by simp) k hk
theorem toD (l : List S85) (fs : List S47) (hl : l.length ≤ 1048576) (hf : fs.length ≤ 1048576) (hg : ∀ y ∈ fs, y.f1.length ≤ 1048576) (k : Nat) (hk : 2097154 < k) : laws_toDatabase.f k l fs = some (l.map cvR, fs.map cvF) := by
  unfold laws_toDatabase.f
  rw [toRS l hl k (by omega), Option.bind_some, toFS fs hf hg k (by omega), Option.bind_some]
theorem eqFSl (l : List S50) (hl : l.length ≤ 1048576) (hg : ∀ y ∈ l, y.f1.length ≤ 1048576) (d : Nat) : ∀ (i : Nat), i + d = l.length → ∀ k, d + 1048577 < k → laws_eqFactS.l0 k l l i = some true := by
  induction d with
  | zero =>
    intro i hd k hk
    obtain ⟨k, rfl, hk⟩ := fuel hk
    rw [laws_eqFactS.l0, if_neg (by omega)]
  | succ d ih =>
    intro i hd k hk
    obtain ⟨k, rfl, hk⟩ := fuel hk
    have hy := hg _ (getD_mem l z50 i (by omega))
    rw [laws_eqFactS.l0, if_pos (by omega), if_pos (by omega), if_pos (by omega)]
    unfold rd_T50
    rw [Int.toNat_natCast, eqF _ _ hy k (by omega), Option.bind_some, if_pos rfl, show wrap64 ((i : Int) + 1) = ((i + 1 : Nat) : Int) by rw [w64 (by omega) (by omega)]; omega]
    exact ih (i + 1) (by omega) k (by omega)
theorem eqFS (l : List S50) (hl : l.length ≤ 1048576) (hg : ∀ y ∈ l, y.f1.length ≤ 1048576) (k : Nat) (hk : l.length + 1048577 < k) : laws_eqFactS.f k l l = some true := by
  unfold laws_eqFactS.f
  rw [if_pos rfl]
  exact eqFSl l hl hg l.length 0 (by omega) k hk
theorem eqD (l : List S86) (fs : List S50) (hl : l.length ≤ 1048576) (hf : fs.length ≤ 1048576) (hg : ∀ y ∈ fs, y.f1.length ≤ 1048576) (k : Nat) (hk : 2097154 < k) : laws_eqDatabase.f k l fs l fs = some true := by
  unfold laws_eqDatabase.f
  rw [eqRS l hl k (by omega), Option.bind_some, if_pos rfl, eqFS fs hf hg k (by omega), Option.bind_some, if_pos rfl]
theorem cvFg (fs : List S47) (hg : ∀ y ∈ fs, y.f1.length ≤ 1048576) : ∀ y ∈ fs.map cvF, y.f1.length ≤ 1048576 := by
  intro y hy
  obtain ⟨x, hx, rfl⟩ := List.mem_map.1 hy
  exact hg x hx

/-! ### valid databases -/

theorem vDSl (l : List S86) (hl : l.length ≤ 1048576) (fs : List S50) (hf : fs.length ≤ 1048576) (hg : ∀ y ∈ fs, y.f1.length ≤ 1048576) (d : Nat) : ∀ (i : Nat), i + d = fs.length → ∀ k, d + 4000000 < k → spec_IsValidDatabase.l0 k i l fs = some (vRels l && decide (fs.length ≤ 14) && okFrom l fs d i) := by
  induction d with
  | zero =>
    intro i hd k hk
    obtain ⟨k, rfl, hk⟩ := fuel hk
    rw [spec_IsValidDatabase.l0, if_neg (by omega)]
    unfold spec_AreValidRelations.f
    rw [Option.bind_some]
    by_cases h : vRels l = true
    · rw [if_pos h, h, okFrom]
      simp only [Bool.true_and, Bool.and_true]
      congr 2
      exact propext (by omega)
    · rw [if_neg h]; simp [h]
  | succ d ih =>
    intro i hd k hk
    obtain ⟨k, rfl, hk⟩ := fuel hk
    have hy := hg _ (getD_mem fs z50 i (by omega))
    rw [spec_IsValidDatabase.l0, if_pos (by omega), if_pos (by omega)]
    unfold rd_T50
    rw [Int.toNat_natCast, vFS l hl _ _ hy k (by omega), Option.bind_some, okFrom]
    unfold vFact
    by_cases h0 : vRels l = true
    · by_cases h1 : fits l (fs.getD i z50).f0 (fs.getD i z50).f1 = true
      · rw [h0, h1, Bool.true_and, if_pos rfl]
        by_cases hi : i = 0
        · rw [if_neg (by omega), show wrap64 ((i : Int) + 1) = ((i + 1 : Nat) : Int) by rw [w64 (by omega) (by omega)]; omega, ih (i + 1) (by omega) k (by omega), h0, decide_eq_true hi]
          simp
        · have hy' := hg _ (getD_mem fs z50 (i - 1) (by omega))
          have ew : wrap64 ((i : Int) - 1) = ((i - 1 : Nat) : Int) := by rw [w64 (by omega) (by omega)]; omega
          rw [if_pos (by omega), ew, if_pos (by omega), if_pos (by omega), Int.toNat_natCast, cmpFS _ _ _ _ hy' hy k (by omega), Option.bind_some, decide_eq_false hi]
          by_cases hc : cmpF (fs.getD (i - 1) z50).f0 (fs.getD (i - 1) z50).f1 (fs.getD i z50).f0 (fs.getD i z50).f1 < 0
          · rw [if_neg (by omega), show wrap64 ((i : Int) + 1) = ((i + 1 : Nat) : Int) by rw [w64 (by omega) (by omega)]; omega, ih (i + 1) (by omega) k (by omega), h0, decide_eq_true hc]
            simp
          · rw [if_pos (by omega), decide_eq_false hc]
            simp
      · rw [Bool.eq_false_iff.2 h1, Bool.and_false, if_neg (by decide)]
        simp
    · rw [if_neg (by simp [h0])]
      simp [h0]
theorem vDS (l : List S86) (hl : l.length ≤ 1048576) (fs : List S50) (hf : fs.length ≤ 1048576) (hg : ∀ y ∈ fs, y.f1.length ≤ 1048576) (k : Nat) (hk : 6000000 < k) : spec_IsValidDatabase.f k l fs = some (vDb l fs) := by
  unfold spec_IsValidDatabase.f vDb
  exact vDSl l hl fs hf hg fs.length 0 (by omega) k (by omega)


/-! ### keys -/
theorem inB_iff (x a b : Int) : inB x a b = true ↔ a ≤ x ∧ x ≤ b := by unfold inB; exact decide_eq_true_iff
theorem vRelsFrom_at (l : List S86) : ∀ (d i : Nat), vRelsFrom l d i = true → ∀ j, i ≤ j → j < i + d → vRel (l.getD j z86) = true
  | 0, i, _, j, h1, h2 => by omega
  | d + 1, i, h, j, h1, h2 => by
    rw [vRelsFrom, Bool.and_eq_true, Bool.and_eq_true] at h
    by_cases hj : j = i
    · subst hj
      exact h.1.1
    · exact vRelsFrom_at l d (i + 1) h.2 j (by omega) (by omega)
theorem vRels_at (l : List S86) (h : vRels l = true) (a : Int) (h0 : 0 ≤ a) (h1 : a < (l.length : Int)) : vRel (rd_T86 l a) = true := by
  unfold rd_T86
  exact vRelsFrom_at l l.length 0 h a.toNat (by omega) (by omega)
theorem fits_iff (l : List S86) (a : Int) (vs : List Int) : fits l a vs = true ↔ (0 ≤ a ∧ a < (l.length : Int) ∧ (vs.length : Int) = (rd_T86 l a).f1) ∧ vs.any noVal = false := by
  unfold fits
  rw [Bool.and_eq_true, decide_eq_true_iff, Bool.not_eq_true']
theorem key_ok (l : List S86) (hr : vRels l = true) (a : Int) (vs : List Int) (h : fits l a vs = true) :
    0 ≤ a ∧ a < (l.length : Int) ∧ 0 ≤ (rd_T86 l a).f2 ∧ (rd_T86 l a).f2 ≤ (vs.length : Int) ∧ (vs.length : Int) = (rd_T86 l a).f1 ∧ vs.length ≤ 3 := by
  obtain ⟨⟨h0, h1, h2⟩, _⟩ := (fits_iff l a vs).1 h
  have hv := vRels_at l hr a h0 h1
  unfold vRel at hv
  rw [Bool.and_eq_true, Bool.and_eq_true, inB_iff, inB_iff] at hv
  exact ⟨h0, h1, by omega, by omega, h2, by omega⟩
theorem cmpI_zero : ∀ (x y : List Int), cmpI x y = 0 ↔ x = y
  | [], [] => by simp [cmpI]
  | [], _ :: _ => by simp [cmpI]
  | _ :: _, [] => by simp [cmpI]
  | x :: xs, y :: ys => by
    rw [cmpI]
    by_cases h1 : x < y
    · rw [if_pos h1]
      constructor
      · intro h; omega
      · intro h; have := (List.cons.inj h).1; omega
    · rw [if_neg h1]
      by_cases h2 : x > y
      · rw [if_pos h2]
        constructor
        · intro h; omega
        · intro h; have := (List.cons.inj h).1; omega
      · rw [if_neg h2, cmpI_zero xs ys]
        have : x = y := by omega
        subst this
        simp
/-- The two facts have one key. -/
def sameK (l : List S86) (a : Int) (x : List Int) (b : Int) (y : List Int) : Bool := decide (a = b) && decide (x.take ((rd_T86 l a).f2).toNat = y.take ((rd_T86 l a).f2).toNat)
def keyOf (l : List S86) (a : Int) (vs : List Int) : List Int := if vFact l a vs = true then vs.take ((rd_T86 l a).f2).toNat else []
theorem keyS (l : List S86) (hl : l.length ≤ 1048576) (a : Int) (vs : List Int) (hs : vs.length ≤ 1048576) (k : Nat) (hk : vs.length + 1 < k) : spec_KeyOf.f k l a vs = some (keyOf l a vs) := by
  unfold spec_KeyOf.f keyOf
  rw [vFS l hl a vs hs k hk, Option.bind_some]
  by_cases h : vFact l a vs = true
  · have h' := h
    unfold vFact at h'
    rw [Bool.and_eq_true] at h'
    obtain ⟨h0, h1, h2, h3, h4, h5⟩ := key_ok l h'.1 a vs h'.2
    rw [if_pos h, if_pos h, Option.bind_some, if_pos h0, if_pos h1, if_pos h2, if_pos h3, if_pos (by simp only [List.length_nil, List.length_take]; omega), List.nil_append]
  · rw [if_neg h, if_neg h]

/-! ### one key: both texts' question -/
theorem sameS (l : List S86) (hl : l.length ≤ 1048576) (a : Int) (x : List Int) (b : Int) (y : List Int) (hx : x.length ≤ 1048576) (hy : y.length ≤ 1048576) (k : Nat) (hk : 3000000 < k) :
    spec_HaveSameKey.f k l a x b y = some (vFact l a x && vFact l b y && sameK l a x b y) := by
  unfold spec_HaveSameKey.f sameK
  rw [vFS l hl a x hx k (by omega), Option.bind_some]
  by_cases h1 : vFact l a x = true
  · rw [if_pos h1, vFS l hl b y hy k (by omega), Option.bind_some, h1]
    by_cases h2 : vFact l b y = true
    · rw [if_pos h2, h2]
      by_cases h3 : a = b
      · subst h3
        rw [if_pos rfl, keyS l hl a x hx k (by omega), Option.bind_some, keyS l hl a y hy k (by omega), Option.bind_some]
        unfold keyOf
        rw [if_pos h1, if_pos h2, cmpS _ _ (by rw [List.length_take]; omega) (by rw [List.length_take]; omega) k (by rw [List.length_take]; omega), Option.bind_some]
        simp only [Bool.true_and, decide_true]
        congr 1
        rw [Bool.eq_iff_iff, beq_iff_eq, cmpI_zero, decide_eq_true_iff]
      · rw [if_neg h3]
        simp [h3]
    · rw [if_neg h2]
      simp [h2]
  · rw [if_neg h1]
    simp [h1]
theorem sameI (l : List S86) (hr : vRels l = true) (a : Int) (x : List Int) (b : Int) (y : List Int) (hx : fits l a x = true) (hy : fits l b y = true) : impl_sameKey.f l a x b y = some (sameK l a x b y) := by
  unfold impl_sameKey.f sameK
  by_cases h : a = b
  · subst h
    obtain ⟨h0, h1, h2, h3, _⟩ := key_ok l hr a x hx
    obtain ⟨_, _, _, h4, _⟩ := key_ok l hr a y hy
    rw [if_pos rfl, if_pos ⟨h0, h1, h2, h3, h4⟩, decide_eq_true rfl, Bool.true_and]
  · rw [if_neg h]
    simp [h]

/-! ### order and blocks -/
theorem cmpI_trans : ∀ (x y z : List Int), cmpI x y < 0 → cmpI y z < 0 → cmpI x z < 0
  | [], _, [], _, h2 => by cases ‹List Int› <;> simp [cmpI] at h2
  | [], _, _ :: _, _, _ => by simp [cmpI]
  | _ :: _, [], _, h1, _ => by simp [cmpI] at h1
  | _ :: _, _ :: _, [], _, h2 => by simp [cmpI] at h2
  | x :: xs, y :: ys, z :: zs, h1, h2 => by
    rw [cmpI] at h1 h2 ⊢
    by_cases a1 : x < y
    · by_cases a2 : y < z
      · rw [if_pos (by omega)]; decide
      · rw [if_neg a2] at h2
        by_cases a3 : y > z
        · rw [if_pos a3] at h2; omega
        · rw [if_pos (by omega)]; decide
    · rw [if_neg a1] at h1
      by_cases a4 : x > y
      · rw [if_pos a4] at h1; omega
      · rw [if_neg a4] at h1
        by_cases a2 : y < z
        · rw [if_pos (by omega)]; decide
        · rw [if_neg a2] at h2
          by_cases a3 : y > z
          · rw [if_pos a3] at h2; omega
          · rw [if_neg a3] at h2
            rw [if_neg (by omega), if_neg (by omega)]
            exact cmpI_trans xs ys zs h1 h2
theorem cmpF_lt (a : Int) (x : List Int) (b : Int) (y : List Int) : cmpF a x b y < 0 ↔ a < b ∨ (a = b ∧ cmpI x y < 0) := by
  unfold cmpF
  by_cases h1 : a < b
  · rw [if_pos h1]; simp [h1]
  · rw [if_neg h1]
    by_cases h2 : a > b
    · rw [if_pos h2]
      constructor
      · intro h; omega
      · intro h; omega
    · rw [if_neg h2]
      constructor
      · intro h; exact .inr ⟨by omega, h⟩
      · intro h
        rcases h with h | h
        · omega
        · exact h.2
theorem cmpF_trans (a : Int) (x : List Int) (b : Int) (y : List Int) (c : Int) (z : List Int) (h1 : cmpF a x b y < 0) (h2 : cmpF b y c z < 0) : cmpF a x c z < 0 := by
  rw [cmpF_lt] at h1 h2 ⊢
  rcases h1 with h1 | ⟨h1, h1'⟩ <;> rcases h2 with h2 | ⟨h2, h2'⟩
  · exact .inl (by omega)
  · exact .inl (by omega)
  · exact .inl (by omega)
  · exact .inr ⟨by omega, cmpI_trans _ _ _ h1' h2'⟩
theorem take_mid : ∀ (m : Nat) (x y z : List Int), cmpI x y < 0 → cmpI y z < 0 → x.take m = z.take m → x.take m = y.take m
  | 0, _, _, _, _, _, _ => by simp
  | m + 1, [], y, z, h1, h2, h => by
    cases z with
    | nil => cases y <;> simp [cmpI] at h1 h2
    | cons z zs => simp at h
  | m + 1, x :: xs, [], z, h1, h2, h => by simp [cmpI] at h1
  | m + 1, x :: xs, y :: ys, [], h1, h2, h => by simp [cmpI] at h2
  | m + 1, x :: xs, y :: ys, z :: zs, h1, h2, h => by
    rw [List.take_succ_cons, List.take_succ_cons] at h
    obtain ⟨rfl, g⟩ := List.cons.inj h
    clear h
    rw [cmpI] at h1 h2
    have h1' : ¬ x > y := fun g => by rw [if_neg (by omega), if_pos g] at h1; omega
    have h2' : ¬ y > x := fun g => by rw [if_neg (by omega), if_pos g] at h2; omega
    rw [if_neg (by omega), if_neg (by omega)] at h1 h2
    have : x = y := by omega
    subst this
    rw [List.take_succ_cons, List.take_succ_cons, take_mid m xs ys zs h1 h2 g]
theorem okFrom_at (l : List S86) (fs : List S50) : ∀ (d i : Nat), okFrom l fs d i = true → ∀ j, i ≤ j → j < i + d → fits l (fs.getD j z50).f0 (fs.getD j z50).f1 = true ∧ (j = 0 ∨ cmpF (fs.getD (j - 1) z50).f0 (fs.getD (j - 1) z50).f1 (fs.getD j z50).f0 (fs.getD j z50).f1 < 0)
  | 0, i, _, j, h1, h2 => by omega
  | d + 1, i, h, j, h1, h2 => by
    rw [okFrom, Bool.and_eq_true, Bool.and_eq_true, Bool.or_eq_true, decide_eq_true_iff, decide_eq_true_iff] at h
    by_cases hj : j = i
    · subst hj
      exact h.1
    · exact okFrom_at l fs d (i + 1) h.2 j (by omega) (by omega)
theorem vDb_parts (l : List S86) (fs : List S50) (h : vDb l fs = true) : vRels l = true ∧ fs.length ≤ 14 ∧ (∀ j, j < fs.length → fits l (fs.getD j z50).f0 (fs.getD j z50).f1 = true) ∧ ∀ j, 0 < j → j < fs.length → cmpF (fs.getD (j - 1) z50).f0 (fs.getD (j - 1) z50).f1 (fs.getD j z50).f0 (fs.getD j z50).f1 < 0 := by
  unfold vDb at h
  rw [Bool.and_eq_true, Bool.and_eq_true, decide_eq_true_iff] at h
  refine ⟨h.1.1, h.1.2, fun j hj => (okFrom_at l fs _ 0 h.2 j (by omega) (by omega)).1, fun j h0 hj => ?_⟩
  rcases (okFrom_at l fs _ 0 h.2 j (by omega) (by omega)).2 with e | e
  · omega
  · exact e
theorem vDb_lt (l : List S86) (fs : List S50) (h : vDb l fs = true) (i : Nat) : ∀ (d : Nat), i + d + 1 < fs.length → cmpF (fs.getD i z50).f0 (fs.getD i z50).f1 (fs.getD (i + d + 1) z50).f0 (fs.getD (i + d + 1) z50).f1 < 0
  | 0, hd => (vDb_parts l fs h).2.2.2 (i + 1) (by omega) hd
  | d + 1, hd => cmpF_trans _ _ _ _ _ _ (vDb_lt l fs h i d (by omega)) ((vDb_parts l fs h).2.2.2 (i + (d + 1) + 1) (by omega) hd)
/-- Facts i and j have one key. -/
def skN (l : List S86) (fs : List S50) (i j : Nat) : Bool := sameK l (fs.getD i z50).f0 (fs.getD i z50).f1 (fs.getD j z50).f0 (fs.getD j z50).f1
theorem sk_iff (l : List S86) (fs : List S50) (i j : Nat) : skN l fs i j = true ↔ (fs.getD i z50).f0 = (fs.getD j z50).f0 ∧ (fs.getD i z50).f1.take ((rd_T86 l (fs.getD i z50).f0).f2).toNat = (fs.getD j z50).f1.take ((rd_T86 l (fs.getD i z50).f0).f2).toNat := by
  unfold skN sameK
  rw [Bool.and_eq_true, decide_eq_true_iff, decide_eq_true_iff]
theorem sk_refl (l : List S86) (fs : List S50) (i : Nat) : skN l fs i i = true := (sk_iff l fs i i).2 ⟨rfl, rfl⟩
theorem sk_symm (l : List S86) (fs : List S50) {i j : Nat} (h : skN l fs i j = true) : skN l fs j i = true := by
  obtain ⟨h1, h2⟩ := (sk_iff l fs i j).1 h
  refine (sk_iff l fs j i).2 ⟨h1.symm, ?_⟩
  rw [← h1]
  exact h2.symm
theorem sk_trans (l : List S86) (fs : List S50) {i j m : Nat} (h : skN l fs i j = true) (h' : skN l fs j m = true) : skN l fs i m = true := by
  obtain ⟨h1, h2⟩ := (sk_iff l fs i j).1 h
  obtain ⟨h3, h4⟩ := (sk_iff l fs j m).1 h'
  refine (sk_iff l fs i m).2 ⟨h1.trans h3, ?_⟩
  rw [← h1] at h4
  exact h2.trans h4
theorem sk_mid (l : List S86) (fs : List S50) (h : vDb l fs = true) {i j m : Nat} (h1 : i < j) (h2 : j < m) (h3 : m < fs.length) (hk : skN l fs i m = true) : skN l fs i j = true := by
  obtain ⟨e1, e2⟩ := (sk_iff l fs i m).1 hk
  have g1 := vDb_lt l fs h i (j - i - 1) (by omega)
  have g2 := vDb_lt l fs h j (m - j - 1) (by omega)
  rw [show i + (j - i - 1) + 1 = j by omega, cmpF_lt] at g1
  rw [show j + (m - j - 1) + 1 = m by omega, cmpF_lt] at g2
  refine (sk_iff l fs i j).2 ⟨by omega, take_mid _ _ _ _ ?_ ?_ e2⟩
  · rcases g1 with g1 | g1
    · omega
    · exact g1.2
  · rcases g2 with g2 | g2
    · omega
    · exact g2.2
theorem sk_step (l : List S86) (fs : List S50) (h : vDb l fs = true) {i j : Nat} (h1 : j < i) (h3 : i < fs.length) (hk : skN l fs j i = true) : skN l fs (i - 1) i = true := by
  by_cases e : j = i - 1
  · rw [← e]; exact hk
  · exact sk_trans l fs (sk_symm l fs (sk_mid l fs h (i := j) (j := i - 1) (m := i) (by omega) (by omega) h3 hk)) hk
/-- The facts below m that have fact h's key. -/
def blk (l : List S86) (fs : List S50) (h m : Nat) : List Int := ((List.range m).filter (skN l fs h)).map (fun (j : Nat) => (j : Int))
theorem blk_succ (l : List S86) (fs : List S50) (h m : Nat) : blk l fs h (m + 1) = blk l fs h m ++ if skN l fs h m = true then [(m : Int)] else [] := by
  unfold blk
  rw [List.range_succ, List.filter_append, List.map_append]
  congr 1
  by_cases e : skN l fs h m = true
  · rw [if_pos e, List.filter_cons_of_pos e]; rfl
  · rw [if_neg e, List.filter_cons_of_neg e]; rfl
theorem blk_len (l : List S86) (fs : List S50) (h m : Nat) : (blk l fs h m).length ≤ m := by
  unfold blk
  rw [List.length_map]
  exact Nat.le_trans (List.length_filter_le _ _) (by simp)
theorem mem_blk (l : List S86) (fs : List S50) (h m : Nat) (x : Int) (hx : x ∈ blk l fs h m) : ∃ j : Nat, x = j ∧ j < m ∧ skN l fs h j = true := by
  unfold blk at hx
  obtain ⟨j, hj, rfl⟩ := List.mem_map.1 hx
  obtain ⟨h1, h2⟩ := List.mem_filter.1 hj
  exact ⟨j, rfl, by simpa using h1, h2⟩
/-- No fact ahead has this one's key. -/
def isHd (l : List S86) (fs : List S50) (h : Nat) : Bool := (List.range h).all fun j => !skN l fs h j
theorem isHd_iff (l : List S86) (fs : List S50) (h : Nat) : isHd l fs h = true ↔ ∀ j, j < h → skN l fs h j = false := by
  unfold isHd
  rw [List.all_eq_true]
  constructor
  · intro g j hj
    have := g j (by simpa using hj)
    simpa using this
  · intro g j hj
    rw [g j (by simpa using hj)]
    rfl
theorem filter_none (p : Nat → Bool) : ∀ (m : Nat), (∀ j, j < m → p j = false) → (List.range m).filter p = []
  | 0, _ => rfl
  | m + 1, h => by
    rw [List.range_succ, List.filter_append, filter_none p m fun j hj => h j (by omega), List.filter_cons_of_neg (by rw [h m (by omega)]; decide)]
    rfl
theorem blk_first (l : List S86) (fs : List S50) (h : Nat) (hh : isHd l fs h = true) : ∀ (d : Nat), ∃ r, blk l fs h (h + 1 + d) = (h : Int) :: r
  | 0 => ⟨[], by
    rw [Nat.add_zero, blk_succ, if_pos (sk_refl l fs h)]
    unfold blk
    rw [filter_none _ _ ((isHd_iff l fs h).1 hh)]
    rfl⟩
  | d + 1 => by
    obtain ⟨r, hr⟩ := blk_first l fs h hh d
    rw [show h + 1 + (d + 1) = (h + 1 + d) + 1 by omega, blk_succ, hr]
    exact ⟨_, rfl⟩
theorem blk_head (l : List S86) (fs : List S50) (h m : Nat) (hm : h < m) : ∃ j r, blk l fs h m = ((j : Nat) : Int) :: r ∧ j ≤ h ∧ skN l fs h j = true ∧ (isHd l fs h = true ↔ j = h) := by
  by_cases hh : isHd l fs h = true
  · obtain ⟨r, hr⟩ := blk_first l fs h hh (m - (h + 1))
    rw [show h + 1 + (m - (h + 1)) = m by omega] at hr
    exact ⟨h, r, hr, Nat.le_refl _, sk_refl l fs h, by simp [hh]⟩
  · have hne : ¬ ∀ j, j < h → skN l fs h j = false := fun g => hh ((isHd_iff l fs h).2 g)
    have hpre : blk l fs h m = blk l fs h h ++ (((List.range m).drop h).filter (skN l fs h)).map (fun (j : Nat) => (j : Int)) := by
      unfold blk
      rw [← List.map_append, ← List.filter_append]
      congr 2
      have : List.range h = (List.range m).take h := by
        rw [List.take_range, Nat.min_eq_left (by omega)]
      rw [this, List.take_append_drop]
    cases hb : blk l fs h h with
    | nil =>
      exfalso
      apply hne
      intro j hj
      cases hs : skN l fs h j with
      | false => rfl
      | true =>
        have : (j : Int) ∈ blk l fs h h := by
          unfold blk
          exact List.mem_map.2 ⟨j, List.mem_filter.2 ⟨by simpa using hj, hs⟩, rfl⟩
        rw [hb] at this
        cases this
    | cons x r =>
      obtain ⟨j, rfl, hj, hs⟩ := mem_blk l fs h h x (by rw [hb]; exact List.mem_cons_self)
      rw [hb] at hpre
      exact ⟨j, _, hpre, by omega, hs, by simp only [hh, Bool.false_eq_true, false_iff]; omega⟩
def heads (l : List S86) (fs : List S50) (m : Nat) : List Nat := (List.range m).filter (isHd l fs)
theorem heads_succ (l : List S86) (fs : List S50) (m : Nat) : heads l fs (m + 1) = heads l fs m ++ if isHd l fs m = true then [m] else [] := by
  unfold heads
  rw [List.range_succ, List.filter_append]
  congr 1
  by_cases e : isHd l fs m = true
  · rw [if_pos e, List.filter_cons_of_pos e]; rfl
  · rw [if_neg e, List.filter_cons_of_neg e]; rfl
theorem mem_heads (l : List S86) (fs : List S50) (m h : Nat) : h ∈ heads l fs m ↔ h < m ∧ isHd l fs h = true := by
  unfold heads
  rw [List.mem_filter, List.mem_range]
/-- The blocks of the facts below m: for each first fact below m, the facts below t with its key. -/
def bls (l : List S86) (fs : List S50) (m t : Nat) : List (List Int) := (heads l fs m).map fun h => blk l fs h t
theorem bls_len (l : List S86) (fs : List S50) (m t : Nat) : (bls l fs m t).length ≤ m := by
  unfold bls heads
  rw [List.length_map]
  exact Nat.le_trans (List.length_filter_le _ _) (by simp)
theorem heads_last (l : List S86) (fs : List S50) (hv : vDb l fs = true) : ∀ (m : Nat), m + 1 ≤ fs.length → ∃ hs h, heads l fs (m + 1) = hs ++ [h] ∧ h ≤ m ∧ isHd l fs h = true ∧ skN l fs h m = true ∧ ∀ g ∈ hs, g < h
  | 0, _ => ⟨[], 0, by rw [heads_succ, if_pos (by rfl)]; rfl, Nat.le_refl _, rfl, sk_refl l fs 0, fun g hg => by cases hg⟩
  | m + 1, hm => by
    obtain ⟨hs, h, e1, e2, e3, e4, e5⟩ := heads_last l fs hv m (by omega)
    rw [heads_succ]
    by_cases e : isHd l fs (m + 1) = true
    · rw [if_pos e]
      refine ⟨heads l fs (m + 1), m + 1, rfl, Nat.le_refl _, e, sk_refl l fs _, fun g hg => ?_⟩
      exact ((mem_heads l fs _ _).1 hg).1
    · rw [if_neg e, List.append_nil]
      refine ⟨hs, h, e1, by omega, e3, ?_, e5⟩
      have : ∃ j, j < m + 1 ∧ skN l fs (m + 1) j = true := by
        apply Classical.byContradiction
        intro hn
        apply e
        rw [isHd_iff]
        intro j hj
        cases hs : skN l fs (m + 1) j with
        | false => rfl
        | true => exact absurd ⟨j, hj, hs⟩ hn
      obtain ⟨j, hj, hs⟩ := this
      exact sk_trans l fs e4 (sk_step l fs hv hj (by omega) (sk_symm l fs hs))
theorem bls_step_new (l : List S86) (fs : List S50) (m : Nat) (hh : isHd l fs m = true) : bls l fs (m + 1) (m + 1) = bls l fs m m ++ [[(m : Int)]] := by
  unfold bls
  rw [heads_succ, if_pos hh, List.map_append]
  congr 1
  · apply List.map_congr_left
    intro h hm
    have hlt := ((mem_heads l fs _ _).1 hm).1
    rw [blk_succ, if_neg, List.append_nil]
    intro e
    have := (isHd_iff l fs m).1 hh h hlt
    rw [sk_symm l fs e] at this
    cases this
  · obtain ⟨r, hr⟩ := blk_first l fs m hh 0
    rw [Nat.add_zero] at hr
    show [blk l fs m (m + 1)] = _
    rw [blk_succ, if_pos (sk_refl l fs m)]
    unfold blk
    rw [filter_none _ _ ((isHd_iff l fs m).1 hh)]
    rfl
theorem bls_step_old (l : List S86) (fs : List S50) (m : Nat) (hs : List Nat) (h : Nat) (hh : heads l fs m = hs ++ [h]) (hm : isHd l fs m = false) (h1 : isHd l fs h = true) (hk : skN l fs h m = true) (hlt : ∀ g ∈ hs, g < h) :
    bls l fs (m + 1) (m + 1) = (hs.map fun g => blk l fs g m) ++ [blk l fs h m ++ [(m : Int)]] := by
  unfold bls
  rw [heads_succ, if_neg (by rw [hm]; decide), List.append_nil, hh, List.map_append]
  congr 1
  · apply List.map_congr_left
    intro g hg
    rw [blk_succ, if_neg, List.append_nil]
    intro e
    have := (isHd_iff l fs h).1 h1 g (hlt g hg)
    rw [sk_trans l fs hk (sk_symm l fs e)] at this
    cases this
  · show [blk l fs h (m + 1)] = _
    rw [blk_succ, if_pos hk]

/-! ### the reference model's blocks -/
theorem blkSl (l : List S86) (hl : l.length ≤ 1048576) (fs : List S50) (hv : vDb l fs = true) (hg : ∀ y ∈ fs, y.f1.length ≤ 1048576) (h : Nat) (hh : h < fs.length) (d : Nat) : ∀ (j : Nat), j + d = fs.length → ∀ k, 2 * d + 7000000 < k → spec_BlockOf.l0 k h (blk l fs h j) j l fs = some (blk l fs h fs.length) := by
  obtain ⟨q1, q2, q3, q4⟩ := vDb_parts l fs hv
  induction d with
  | zero =>
    intro j hd k hk
    obtain ⟨k, rfl⟩ : ∃ z, k = z + 2 := ⟨k - 2, by omega⟩
    rw [spec_BlockOf.l0, if_neg (by omega), spec_BlockOf.j1, if_neg (by decide), show j = fs.length by omega]
  | succ d ih =>
    intro j hd k hk
    obtain ⟨k, rfl⟩ : ∃ z, k = z + 2 := ⟨k - 2, by omega⟩
    have hyh := hg _ (getD_mem fs z50 h hh)
    have hyj := hg _ (getD_mem fs z50 j (by omega))
    rw [spec_BlockOf.l0, if_pos (by omega), vDS l hl fs (by omega) hg _ (by omega), Option.bind_some, hv, if_pos rfl, in1, Option.bind_some, w64 (by omega) (by omega), decide_eq_true (by omega), spec_BlockOf.j1, if_pos rfl, if_pos (by omega), if_pos (by omega), if_pos (by omega), if_pos (by omega)]
    unfold rd_T50
    rw [Int.toNat_natCast, Int.toNat_natCast, sameS l hl _ _ _ _ hyh hyj k (by omega), Option.bind_some]
    unfold vFact
    rw [q1, q3 h hh, q3 j (by omega), show wrap64 ((j : Int) + 1) = ((j + 1 : Nat) : Int) by rw [w64 (by omega) (by omega)]; omega]
    have hs := blk_succ l fs h j
    have hn := blk_len l fs h j
    unfold skN at hs
    by_cases e : sameK l (fs.getD h z50).f0 (fs.getD h z50).f1 (fs.getD j z50).f0 (fs.getD j z50).f1 = true
    · rw [e, if_pos (by decide), if_pos (by omega)]
      rw [if_pos e] at hs
      rw [← hs]
      exact ih (j + 1) (by omega) k (by omega)
    · rw [Bool.eq_false_iff.2 e, if_neg (by decide)]
      rw [if_neg e, List.append_nil] at hs
      rw [← hs]
      exact ih (j + 1) (by omega) k (by omega)
theorem blkS (l : List S86) (hl : l.length ≤ 1048576) (fs : List S50) (hf : fs.length ≤ 1048576) (hg : ∀ y ∈ fs, y.f1.length ≤ 1048576) (a : Int) (k : Nat) (hk : 7000100 < k) :
    spec_BlockOf.f k l fs a = some (if vDb l fs = true ∧ 0 ≤ a ∧ a < (fs.length : Int) then blk l fs a.toNat fs.length else []) := by
  unfold spec_BlockOf.f
  by_cases h : vDb l fs = true ∧ 0 ≤ a ∧ a < (fs.length : Int)
  · obtain ⟨q1, q2, q3, q4⟩ := vDb_parts l fs h.1
    rw [if_pos h]
    have := blkSl l hl fs h.1 hg a.toNat (by omega) fs.length 0 (by omega) k (by omega)
    rw [show ((a.toNat : Nat) : Int) = a by omega] at this
    exact this
  · rw [if_neg h]
    obtain ⟨k, rfl⟩ : ∃ z, k = z + 2 := ⟨k - 2, by omega⟩
    rw [spec_BlockOf.l0]
    by_cases h0 : (0 : Int) < fs.length
    · rw [if_pos h0, vDS l hl fs hf hg _ (by omega), Option.bind_some]
      by_cases hv : vDb l fs = true
      · rw [if_pos hv, in1, Option.bind_some, w64 (by omega) (by omega), decide_eq_false (by intro e; exact h ⟨hv, by omega, by omega⟩), spec_BlockOf.j1, if_neg (by decide)]
      · rw [if_neg hv, spec_BlockOf.j1, if_neg (by decide)]
    · rw [if_neg h0, spec_BlockOf.j1, if_neg (by decide)]
theorem blsSl (l : List S86) (hl : l.length ≤ 1048576) (fs : List S50) (hv : vDb l fs = true) (hg : ∀ y ∈ fs, y.f1.length ≤ 1048576) (d : Nat) : ∀ (i : Nat), i + d = fs.length → ∀ k, 2 * d + 8000000 < k → spec_Blocks.l0 k (bls l fs i fs.length) i l fs = some (bls l fs fs.length fs.length) := by
  obtain ⟨q1, q2, q3, q4⟩ := vDb_parts l fs hv
  induction d with
  | zero =>
    intro j hd k hk
    obtain ⟨k, rfl⟩ : ∃ z, k = z + 2 := ⟨k - 2, by omega⟩
    rw [spec_Blocks.l0, if_neg (by omega), spec_Blocks.j1, if_neg (by decide), show j = fs.length by omega]
  | succ d ih =>
    intro i hd k hk
    obtain ⟨k, rfl⟩ : ∃ z, k = z + 2 := ⟨k - 2, by omega⟩
    obtain ⟨j, r, e1, e2, e3, e4⟩ := blk_head l fs i fs.length (by omega)
    have hn := bls_len l fs i fs.length
    rw [spec_Blocks.l0, if_pos (by omega), vDS l hl fs (by omega) hg _ (by omega), Option.bind_some, hv, spec_Blocks.j1, if_pos rfl, blkS l hl fs (by omega) hg _ _ (by omega), if_pos ⟨hv, by omega, by omega⟩, Int.toNat_natCast, Option.bind_some, e1, if_pos (by simp only [List.length_cons]; omega), show rd (((j : Nat) : Int) :: r) 0 = j from rfl, show wrap64 ((i : Int) + 1) = ((i + 1 : Nat) : Int) by rw [w64 (by omega) (by omega)]; omega]
    have hs : bls l fs (i + 1) fs.length = bls l fs i fs.length ++ if isHd l fs i = true then [blk l fs i fs.length] else [] := by
      unfold bls
      rw [heads_succ, List.map_append]
      congr 1
      by_cases e : isHd l fs i = true
      · rw [if_pos e, if_pos e]; rfl
      · rw [if_neg e, if_neg e]; rfl
    by_cases e : isHd l fs i = true
    · rw [if_pos e] at hs
      have := e4.1 e
      subst this
      rw [if_pos rfl, if_pos (by omega), ← e1, ← hs]
      exact ih (j + 1) (by omega) k (by omega)
    · rw [if_neg e, List.append_nil] at hs
      have : ¬ j = i := fun h => e (e4.2 h)
      rw [if_neg (by omega), ← hs]
      exact ih (i + 1) (by omega) k (by omega)
theorem blsS (l : List S86) (hl : l.length ≤ 1048576) (fs : List S50) (hf : fs.length ≤ 1048576) (hg : ∀ y ∈ fs, y.f1.length ≤ 1048576) (k : Nat) (hk : 8000100 < k) :
    spec_Blocks.f k l fs = some (if vDb l fs = true then bls l fs fs.length fs.length else []) := by
  unfold spec_Blocks.f
  by_cases h : vDb l fs = true
  · obtain ⟨q1, q2, q3, q4⟩ := vDb_parts l fs h
    rw [if_pos h]
    exact blsSl l hl fs h hg fs.length 0 (by omega) k (by omega)
  · rw [if_neg h]
    obtain ⟨k, rfl⟩ : ∃ z, k = z + 2 := ⟨k - 2, by omega⟩
    rw [spec_Blocks.l0]
    by_cases h0 : (0 : Int) < fs.length
    · rw [if_pos h0, vDS l hl fs hf hg _ (by omega), Option.bind_some, Bool.eq_false_iff.2 h, spec_Blocks.j1, if_neg (by decide)]
    · rw [if_neg h0, spec_Blocks.j1, if_neg (by decide)]

/-! ### the program's blocks -/
theorem getD_mid {α : Type} (xs : List α) (y d : α) : (xs ++ [y]).getD xs.length d = y := by
  rw [List.getD_eq_getElem?_getD, List.getElem?_append_right (Nat.le_refl _), Nat.sub_self]
  rfl
theorem set_mid {α : Type} (xs : List α) (y z : α) : (xs ++ [y]).set xs.length z = xs ++ [z] := by
  rw [List.set_append_right _ _ (Nat.le_refl _), Nat.sub_self]
  rfl
theorem blsIl (l : List S86) (fs : List S50) (hv : vDb l fs = true) (d : Nat) : ∀ (i : Nat), i + d = fs.length → ∀ k, d < k → impl_blocks.l0 k (bls l fs i i) fs fs.length i l fs = some (bls l fs fs.length fs.length) := by
  obtain ⟨q1, q2, q3, q4⟩ := vDb_parts l fs hv
  induction d with
  | zero =>
    intro i hd k hk
    obtain ⟨k, rfl, hk⟩ := fuel hk
    rw [impl_blocks.l0, if_neg (by omega), show i = fs.length by omega]
  | succ d ih =>
    intro i hd k hk
    obtain ⟨k, rfl, hk⟩ := fuel hk
    have hn := bls_len l fs i i
    have e1 : wrap64 ((i : Int) + 1) = ((i + 1 : Nat) : Int) := by rw [w64 (by omega) (by omega)]; omega
    rw [impl_blocks.l0, if_pos (by omega), if_pos (by omega), if_pos (by omega), e1]
    cases i with
    | zero =>
      have e0 : bls l fs 0 0 = [] := rfl
      rw [e0, show wrap64 ((([] : List (List Int)).length : Int) - 1) = -1 by rw [w64 (by simp) (by simp)]; simp, if_neg (by decide), if_pos (by simp)]
      have := bls_step_new l fs 0 rfl
      rw [e0] at this
      rw [show ([] : List (List Int)) ++ [[((0 : Nat) : Int)]] = bls l fs (0 + 1) (0 + 1) from this.symm]
      exact ih (0 + 1) (by omega) k (by omega)
    | succ m =>
      obtain ⟨hs, h, g1, g2, g3, g4, g5⟩ := heads_last l fs hv m (by omega)
      have hx : bls l fs (m + 1) (m + 1) = (hs.map fun g => blk l fs g (m + 1)) ++ [blk l fs h (m + 1)] := by
        unfold bls
        rw [g1, List.map_append]
        rfl
      have hlen : (bls l fs (m + 1) (m + 1)).length = hs.length + 1 := by rw [hx]; simp
      have hml : (hs.map fun g => blk l fs g (m + 1)).length = hs.length := by simp
      have ew : wrap64 (((bls l fs (m + 1) (m + 1)).length : Int) - 1) = (hs.length : Int) := by rw [hlen, w64 (by omega) (by omega)]; omega
      obtain ⟨r, hr⟩ := blk_first l fs h g3 (m - h)
      rw [show h + 1 + (m - h) = m + 1 by omega] at hr
      have hb : rd_L3 (bls l fs (m + 1) (m + 1)) (hs.length : Int) = blk l fs h (m + 1) := by
        unfold rd_L3
        rw [Int.toNat_natCast, hx]
        have := getD_mid (hs.map fun g => blk l fs g (m + 1)) (blk l fs h (m + 1)) []
        rw [hml] at this
        exact this
      have hbl := blk_len l fs h (m + 1)
      rw [ew, if_pos (by omega), if_pos (by omega), if_pos (by rw [hlen]; omega), hb, if_pos (by rw [hr]; simp only [List.length_cons]; omega), show rd (blk l fs h (m + 1)) 0 = (h : Int) by rw [hr]; rfl, if_pos (by omega), if_pos (by omega)]
      unfold rd_T50
      rw [Int.toNat_natCast, Int.toNat_natCast, sameI l q1 _ _ _ _ (q3 h (by omega)) (q3 (m + 1) (by omega)), Option.bind_some]
      by_cases e : skN l fs h (m + 1) = true
      · have hm : isHd l fs (m + 1) = false := by
          cases hq : isHd l fs (m + 1) with
          | false => rfl
          | true =>
            have := (isHd_iff l fs (m + 1)).1 hq h (by omega)
            rw [sk_symm l fs e] at this
            cases this
        have hst := bls_step_old l fs (m + 1) hs h g1 hm g3 e g5
        have he := e
        unfold skN at he
        rw [if_pos he, if_pos (by omega), Int.toNat_natCast, hx]
        have := set_mid (hs.map fun g => blk l fs g (m + 1)) (blk l fs h (m + 1)) (blk l fs h (m + 1) ++ [((m + 1 : Nat) : Int)])
        rw [hml] at this
        rw [this, ← hst]
        exact ih (m + 1 + 1) (by omega) k (by omega)
      · have hm : isHd l fs (m + 1) = true := by
          apply Classical.byContradiction
          intro hq
          have : ∃ j, j < m + 1 ∧ skN l fs (m + 1) j = true := by
            apply Classical.byContradiction
            intro hn
            apply hq
            rw [isHd_iff]
            intro j hj
            cases hs : skN l fs (m + 1) j with
            | false => rfl
            | true => exact absurd ⟨j, hj, hs⟩ hn
          obtain ⟨j, hj, hs⟩ := this
          exact e (sk_trans l fs g4 (sk_step l fs hv hj (by omega) (sk_symm l fs hs)))
        have hst := bls_step_new l fs (m + 1) hm
        have he := e
        unfold skN at he
        rw [if_neg he, if_pos (by omega), ← hst]
        exact ih (m + 1 + 1) (by omega) k (by omega)
theorem blsI (l : List S86) (fs : List S50) (hv : vDb l fs = true) (k : Nat) (hk : 100 < k) : impl_blocks.f k l fs = some (bls l fs fs.length fs.length) := by
  unfold impl_blocks.f
  obtain ⟨q1, q2, q3, q4⟩ := vDb_parts l fs hv
  exact blsIl l fs hv fs.length 0 (by omega) k (by omega)

/-! ### consistency and the number of repairs -/
theorem consS (l : List S86) (hl : l.length ≤ 1048576) (fs : List S50) (hf : fs.length ≤ 1048576) (hg : ∀ y ∈ fs, y.f1.length ≤ 1048576) (k : Nat) (hk : 8000100 < k) :
    spec_IsConsistent.f k l fs = some (vDb l fs && ((bls l fs fs.length fs.length).length : Int) == (fs.length : Int)) := by
  unfold spec_IsConsistent.f
  rw [vDS l hl fs hf hg k (by omega), Option.bind_some]
  by_cases h : vDb l fs = true
  · rw [if_pos h, blsS l hl fs hf hg k hk, if_pos h, Option.bind_some, h, Bool.true_and]
  · rw [if_neg h, Bool.eq_false_iff.2 h, Bool.false_and]
theorem consI (l : List S86) (hl : l.length ≤ 1048576) (fs : List S50) (hf : fs.length ≤ 1048576) (hg : ∀ y ∈ fs, y.f1.length ≤ 1048576) (k : Nat) (hk : 8000100 < k) :
    impl_IsConsistent.f k l fs = some (vDb l fs && ((bls l fs fs.length fs.length).length : Int) == (fs.length : Int)) := by
  unfold impl_IsConsistent.f
  rw [vDI l hl fs hf hg k (by omega), Option.bind_some]
  by_cases h : vDb l fs = true
  · rw [if_pos h, blsI l fs h k (by omega), Option.bind_some, h, Bool.true_and]
  · rw [if_neg h, Bool.eq_false_iff.2 h, Bool.false_and]

/-! ### lists of places, and the facts at them -/
def ascFrom (xs : List Int) (n : Int) : Nat → Nat → Bool
  | 0, _ => true
  | d + 1, i => decide (0 ≤ xs.getD i 0 ∧ xs.getD i 0 ≤ n - 1) && (decide (i = 0) || decide (xs.getD (i - 1) 0 < xs.getD i 0)) && ascFrom xs n d (i + 1)
def asc (xs : List Int) (n : Int) : Bool := ascFrom xs n xs.length 0
def sel (fs : List S50) (xs : List Int) : List S50 := xs.map fun i => fs.getD i.toNat z50
theorem rdD (xs : List Int) (i : Nat) : rd xs (i : Int) = xs.getD i 0 := by unfold rd; rw [Int.toNat_natCast]
theorem ascSl (l : List S86) (fs : List S50) (hf : fs.length ≤ 1048576) (xs : List Int) (hx : xs.length ≤ 1048576) (d : Nat) : ∀ (i : Nat), i + d = xs.length → ∀ k, d < k → spec_l4Set.l0 k xs i l fs = some (ascFrom xs fs.length d i) := by
  induction d with
  | zero =>
    intro i hd k hk
    obtain ⟨k, rfl, hk⟩ := fuel hk
    rw [spec_l4Set.l0, if_neg (by omega), ascFrom]
  | succ d ih =>
    intro i hd k hk
    obtain ⟨k, rfl, hk⟩ := fuel hk
    have e1 : wrap64 ((i : Int) + 1) = ((i + 1 : Nat) : Int) := by rw [w64 (by omega) (by omega)]; omega
    rw [spec_l4Set.l0, if_pos (by omega), if_pos (by omega), in1, Option.bind_some, w64 (by omega) (by omega), rdD, ascFrom, e1]
    by_cases h : 0 ≤ xs.getD i 0 ∧ xs.getD i 0 ≤ (fs.length : Int) - 1
    · rw [decide_eq_true h, if_pos rfl]
      by_cases hi : i = 0
      · rw [if_neg (by omega), ih (i + 1) (by omega) k (by omega), decide_eq_true hi]
        simp
      · rw [if_pos (by omega), show wrap64 ((i : Int) - 1) = ((i - 1 : Nat) : Int) by rw [w64 (by omega) (by omega)]; omega, if_pos (by omega), if_pos (by omega), rdD, decide_eq_false hi]
        by_cases hc : xs.getD (i - 1) 0 < xs.getD i 0
        · rw [if_neg (by omega), ih (i + 1) (by omega) k (by omega), decide_eq_true hc]
          simp
        · rw [if_pos (by omega), decide_eq_false hc]
          simp
    · rw [decide_eq_false h, if_neg (by decide)]
      simp
theorem ascS (l : List S86) (fs : List S50) (hf : fs.length ≤ 1048576) (xs : List Int) (hx : xs.length ≤ 1048576) (k : Nat) (hk : xs.length < k) : spec_l4Set.f k l fs xs = some (asc xs fs.length) := by
  unfold spec_l4Set.f asc
  exact ascSl l fs hf xs hx xs.length 0 (by omega) k hk
theorem ascIl (xs : List Int) (n : Int) (h0 : 0 ≤ n) (hn : n ≤ 1048576) (hx : xs.length ≤ 1048576) (d : Nat) : ∀ (i : Nat), i + d = xs.length → ∀ k, d < k → impl_areIndices.l0 k xs n xs xs.length i = some (ascFrom xs n d i) := by
  induction d with
  | zero =>
    intro i hd k hk
    obtain ⟨k, rfl, hk⟩ := fuel hk
    rw [impl_areIndices.l0, if_neg (by omega), ascFrom]
  | succ d ih =>
    intro i hd k hk
    obtain ⟨k, rfl, hk⟩ := fuel hk
    have e1 : wrap64 ((i : Int) + 1) = ((i + 1 : Nat) : Int) := by rw [w64 (by omega) (by omega)]; omega
    rw [impl_areIndices.l0, if_pos (by omega), if_pos (by omega), if_pos (by omega), inI, Option.bind_some, w64 (by omega) (by omega), rdD, ascFrom, e1]
    unfold inB
    by_cases h : 0 ≤ xs.getD i 0 ∧ xs.getD i 0 ≤ n - 1
    · rw [decide_eq_true h, if_pos rfl]
      by_cases hi : i = 0
      · rw [if_neg (by omega), ih (i + 1) (by omega) k (by omega), decide_eq_true hi]
        simp
      · rw [if_pos (by omega), show wrap64 ((i : Int) - 1) = ((i - 1 : Nat) : Int) by rw [w64 (by omega) (by omega)]; omega, if_pos (by omega), if_pos (by omega), rdD, decide_eq_false hi]
        by_cases hc : xs.getD (i - 1) 0 < xs.getD i 0
        · rw [if_neg (by omega), ih (i + 1) (by omega) k (by omega), decide_eq_true hc]
          simp
        · rw [if_pos (by omega), decide_eq_false hc]
          simp
    · rw [decide_eq_false h, if_neg (by decide)]
      simp
theorem ascI (xs : List Int) (n : Int) (h0 : 0 ≤ n) (hn : n ≤ 1048576) (hx : xs.length ≤ 1048576) (k : Nat) (hk : xs.length < k) : impl_areIndices.f k xs n = some (asc xs n) := by
  unfold impl_areIndices.f asc
  exact ascIl xs n h0 hn hx xs.length 0 (by omega) k hk
theorem ascFrom_at (xs : List Int) (n : Int) : ∀ (d i : Nat), ascFrom xs n d i = true → ∀ j, i ≤ j → j < i + d → (0 ≤ xs.getD j 0 ∧ xs.getD j 0 ≤ n - 1) ∧ (j = 0 ∨ xs.getD (j - 1) 0 < xs.getD j 0)
  | 0, i, _, j, h1, h2 => by omega
  | d + 1, i, h, j, h1, h2 => by
    rw [ascFrom, Bool.and_eq_true, Bool.and_eq_true, Bool.or_eq_true, decide_eq_true_iff, decide_eq_true_iff, decide_eq_true_iff] at h
    by_cases hj : j = i
    · subst hj
      exact h.1
    · exact ascFrom_at xs n d (i + 1) h.2 j (by omega) (by omega)
theorem asc_at (xs : List Int) (n : Int) (h : asc xs n = true) (j : Nat) (hj : j < xs.length) : (0 ≤ xs.getD j 0 ∧ xs.getD j 0 ≤ n - 1) ∧ (j = 0 ∨ xs.getD (j - 1) 0 < xs.getD j 0) :=
  ascFrom_at xs n xs.length 0 h j (by omega) (by omega)
theorem sel_g (fs : List S50) (hg : ∀ y ∈ fs, y.f1.length ≤ 1048576) (xs : List Int) : ∀ y ∈ sel fs xs, y.f1.length ≤ 1048576 := by
  intro y hy
  obtain ⟨i, _, rfl⟩ := List.mem_map.1 hy
  by_cases h : i.toNat < fs.length
  · exact hg _ (getD_mem fs z50 _ h)
  · rw [List.getD_eq_getElem?_getD, List.getElem?_eq_none (by omega)]
    show (z50).f1.length ≤ _
    simp [z50]
theorem sel_len (fs : List S50) (xs : List Int) : (sel fs xs).length = xs.length := by unfold sel; simp
theorem sel_take (fs : List S50) (xs : List Int) (i : Nat) (h : i < xs.length) : sel fs (xs.take (i + 1)) = sel fs (xs.take i) ++ [fs.getD (xs.getD i 0).toNat z50] := by
  unfold sel
  rw [List.take_succ_eq_append_getElem h, List.map_append, getD_lt xs 0 i h]
  rfl
theorem selSl (l l2 : List S86) (fs : List S50) (hf : fs.length ≤ 1048576) (hg : ∀ y ∈ fs, y.f1.length ≤ 1048576) (xs : List Int) (hx : xs.length ≤ 1048576) (ha : asc xs fs.length = true) (d : Nat) : ∀ (i : Nat), i + d = xs.length → ∀ k, d < k → spec_SelectFacts.l0 k xs i l fs l2 (sel fs (xs.take i)) = some (l2, sel fs xs, true) := by
  induction d with
  | zero =>
    intro i hd k hk
    obtain ⟨k, rfl, hk⟩ := fuel hk
    rw [spec_SelectFacts.l0, if_neg (by omega), List.take_of_length_le (by omega)]
  | succ d ih =>
    intro i hd k hk
    obtain ⟨k, rfl, hk⟩ := fuel hk
    have hs := (asc_at xs fs.length ha i (by omega)).1
    have hy := hg _ (getD_mem fs z50 (xs.getD i 0).toNat (by omega))
    have hn := sel_len fs (xs.take i)
    rw [List.length_take] at hn
    rw [spec_SelectFacts.l0, if_pos (by omega), if_pos (by omega), rdD, if_pos (by omega), if_pos (by omega), Option.bind_some]
    unfold rd_T50
    rw [if_pos (by simp only [List.length_nil]; omega), if_pos (by omega), List.nil_append, show wrap64 ((i : Int) + 1) = ((i + 1 : Nat) : Int) by rw [w64 (by omega) (by omega)]; omega]
    have := sel_take fs xs i (by omega)
    rw [show sel fs (xs.take i) ++ [(⟨(fs.getD (xs.getD i 0).toNat z50).f0, (fs.getD (xs.getD i 0).toNat z50).f1⟩ : S50)] = sel fs (xs.take (i + 1)) from this.symm]
    exact ih (i + 1) (by omega) k (by omega)
theorem selS (l : List S86) (hl : l.length ≤ 1048576) (fs : List S50) (hf : fs.length ≤ 1048576) (hg : ∀ y ∈ fs, y.f1.length ≤ 1048576) (xs : List Int) (hx : xs.length ≤ 1048576) (k : Nat) (hk : 7000000 < k) :
    spec_SelectFacts.f k l fs xs = some (if vDb l fs = true ∧ asc xs fs.length = true then (l, sel fs xs, true) else ([], [], false)) := by
  obtain ⟨k, rfl⟩ : ∃ z, k = z + 1 := ⟨k - 1, by omega⟩
  unfold spec_SelectFacts.f
  rw [vDS l hl fs hf hg _ (by omega), Option.bind_some]
  by_cases h : vDb l fs = true
  · rw [if_pos h, ascS l fs hf xs hx _ (by omega), Option.bind_some, spec_SelectFacts.j0]
    by_cases h2 : asc xs fs.length = true
    · rw [if_neg (by rw [h2]; decide), Option.bind_some, if_pos (by simp only [List.length_nil]; omega), if_pos ⟨h, h2⟩, List.nil_append]
      exact selSl l l fs hf hg xs hx h2 xs.length 0 (by omega) k (by omega)
    · rw [Bool.eq_false_iff.2 h2, if_pos (by decide), if_neg (by simp)]
  · rw [if_neg h, spec_SelectFacts.j0, if_pos rfl, if_neg (by simp [h])]
theorem copyIl (l : List S86) (fs : List S50) (hf : fs.length ≤ 1048576) (hg : ∀ y ∈ fs, y.f1.length ≤ 1048576) (d : Nat) : ∀ (i : Nat), i + d = fs.length → ∀ k, d < k → impl_copyDatabase.l0 k fs fs.length i l (fs.take i) = some (l, fs) := by
  induction d with
  | zero =>
    intro i hd k hk
    obtain ⟨k, rfl, hk⟩ := fuel hk
    rw [impl_copyDatabase.l0, if_neg (by omega), List.take_of_length_le (by omega)]
  | succ d ih =>
    intro i hd k hk
    obtain ⟨k, rfl, hk⟩ := fuel hk
    have hy := hg _ (getD_mem fs z50 i (by omega))
    rw [impl_copyDatabase.l0, if_pos (by omega), if_pos (by omega), if_pos (by omega), Option.bind_some]
    unfold rd_T50
    rw [Int.toNat_natCast, if_pos (by simp only [List.length_nil]; omega), if_pos (by rw [List.length_take]; omega), List.nil_append, show wrap64 ((i : Int) + 1) = ((i + 1 : Nat) : Int) by rw [w64 (by omega) (by omega)]; omega]
    rw [show fs.take i ++ [(⟨(fs.getD i z50).f0, (fs.getD i z50).f1⟩ : S50)] = fs.take (i + 1) by rw [List.take_succ_eq_append_getElem (by omega), getD_lt fs _ i (by omega)]]
    exact ih (i + 1) (by omega) k (by omega)
theorem copyI (l : List S86) (hl : l.length ≤ 1048576) (fs : List S50) (hf : fs.length ≤ 1048576) (hg : ∀ y ∈ fs, y.f1.length ≤ 1048576) (k : Nat) (hk : fs.length < k) : impl_copyDatabase.f k l fs = some (l, fs) := by
  unfold impl_copyDatabase.f
  rw [Option.bind_some, if_pos (by simp only [List.length_nil]; omega), List.nil_append]
  exact copyIl l fs hf hg fs.length 0 (by omega) k hk
theorem selIl (l l2 : List S86) (fs : List S50) (hf : fs.length ≤ 1048576) (xs : List Int) (hx : xs.length ≤ 1048576) (ha : asc xs fs.length = true) (d : Nat) : ∀ (i : Nat), i + d = xs.length → ∀ k, d < k → impl_SelectFacts.l0 k xs xs.length i l fs l2 (sel fs (xs.take i)) = some (l2, sel fs xs, true) := by
  induction d with
  | zero =>
    intro i hd k hk
    obtain ⟨k, rfl, hk⟩ := fuel hk
    rw [impl_SelectFacts.l0, if_neg (by omega), List.take_of_length_le (by omega)]
  | succ d ih =>
    intro i hd k hk
    obtain ⟨k, rfl, hk⟩ := fuel hk
    have hs := (asc_at xs fs.length ha i (by omega)).1
    have hn := sel_len fs (xs.take i)
    rw [List.length_take] at hn
    rw [impl_SelectFacts.l0, if_pos (by omega), if_pos (by omega), if_pos (by omega), rdD, if_pos (by omega), if_pos (by omega)]
    unfold rd_T50
    rw [if_pos (by omega), show wrap64 ((i : Int) + 1) = ((i + 1 : Nat) : Int) by rw [w64 (by omega) (by omega)]; omega]
    have := sel_take fs xs i (by omega)
    rw [show sel fs (xs.take i) ++ [(⟨(fs.getD (xs.getD i 0).toNat z50).f0, (fs.getD (xs.getD i 0).toNat z50).f1⟩ : S50)] = sel fs (xs.take (i + 1)) from this.symm]
    exact ih (i + 1) (by omega) k (by omega)
theorem selI (l : List S86) (hl : l.length ≤ 1048576) (fs : List S50) (hf : fs.length ≤ 1048576) (hg : ∀ y ∈ fs, y.f1.length ≤ 1048576) (xs : List Int) (hx : xs.length ≤ 1048576) (k : Nat) (hk : 7000000 < k) :
    impl_SelectFacts.f k l fs xs = some (if vDb l fs = true ∧ asc xs fs.length = true then (l, sel fs xs, true) else ([], [], false)) := by
  obtain ⟨k, rfl⟩ : ∃ z, k = z + 1 := ⟨k - 1, by omega⟩
  unfold impl_SelectFacts.f
  rw [vDI l hl fs hf hg (k + 1) (by omega), Option.bind_some]
  by_cases h : vDb l fs = true
  · rw [if_pos h, ascI xs _ (by omega) (by omega) hx _ (by omega), Option.bind_some, impl_SelectFacts.j0]
    by_cases h2 : asc xs fs.length = true
    · rw [if_neg (by rw [h2]; decide), copyI l hl fs hf hg _ (by omega), Option.bind_some, if_pos ⟨h, h2⟩]
      exact selIl l l fs hf xs hx h2 xs.length 0 (by omega) k (by omega)
    · rw [Bool.eq_false_iff.2 h2, if_pos (by decide), if_neg (by simp)]
  · rw [if_neg h, impl_SelectFacts.j0, if_pos rfl, if_neg (by simp [h])]
/-- The facts at these places are a partial repair. -/
def partR (l : List S86) (fs : List S50) (xs : List Int) : Bool :=
  (vDb l fs && asc xs fs.length) && (vDb l (sel fs xs) && ((bls l (sel fs xs) (sel fs xs).length (sel fs xs).length).length : Int) == ((sel fs xs).length : Int))
theorem partS (l : List S86) (hl : l.length ≤ 1048576) (fs : List S50) (hf : fs.length ≤ 1048576) (hg : ∀ y ∈ fs, y.f1.length ≤ 1048576) (xs : List Int) (hx : xs.length ≤ 1048576) (k : Nat) (hk : 8000100 < k) :
    spec_IsPartialRepair.f k l fs xs = some (partR l fs xs) := by
  unfold spec_IsPartialRepair.f partR
  rw [selS l hl fs hf hg xs hx k (by omega), Option.bind_some]
  by_cases h : vDb l fs = true ∧ asc xs fs.length = true
  · rw [if_pos h, if_pos rfl, consS l hl _ (by rw [sel_len]; exact hx) (sel_g fs hg xs) k hk, Option.bind_some, h.1, h.2]
    rfl
  · rw [if_neg h, if_neg (by decide)]
    rw [show (vDb l fs && asc xs fs.length) = false by rw [Bool.eq_false_iff, ne_eq, Bool.and_eq_true]; exact h]
    rfl
theorem partI (l : List S86) (hl : l.length ≤ 1048576) (fs : List S50) (hf : fs.length ≤ 1048576) (hg : ∀ y ∈ fs, y.f1.length ≤ 1048576) (xs : List Int) (hx : xs.length ≤ 1048576) (k : Nat) (hk : 8000100 < k) :
    impl_IsPartialRepair.f k l fs xs = some (partR l fs xs) := by
  unfold impl_IsPartialRepair.f partR
  rw [selI l hl fs hf hg xs hx k (by omega), Option.bind_some]
  by_cases h : vDb l fs = true ∧ asc xs fs.length = true
  · rw [if_pos h, if_pos rfl, consI l hl _ (by rw [sel_len]; exact hx) (sel_g fs hg xs) k hk, Option.bind_some, h.1, h.2]
    rfl
  · rw [if_neg h, if_neg (by decide)]
    rw [show (vDb l fs && asc xs fs.length) = false by rw [Bool.eq_false_iff, ne_eq, Bool.and_eq_true]; exact h]
    rfl

/-! ### repairs -/
def repR (l : List S86) (fs : List S50) (xs : List Int) : Bool := partR l fs xs && ((xs.length : Int) == ((bls l fs fs.length fs.length).length : Int))
theorem partR_v (l : List S86) (fs : List S50) (xs : List Int) (h : partR l fs xs = true) : vDb l fs = true ∧ asc xs fs.length = true := by
  unfold partR at h
  rw [Bool.and_eq_true, Bool.and_eq_true] at h
  exact h.1

theorem repS (l : List S86) (hl : l.length ≤ 1048576) (fs : List S50) (hf : fs.length ≤ 1048576) (hg : ∀ y ∈ fs, y.f1.length ≤ 1048576) (xs : List Int) (hx : xs.length ≤ 1048576) (k : Nat) (hk : 8000100 < k) :
    spec_IsRepair.f k l fs xs = some (repR l fs xs) := by
  unfold spec_IsRepair.f repR
  rw [partS l hl fs hf hg xs hx k hk, Option.bind_some]
  by_cases h : partR l fs xs = true
  · rw [if_pos h, blsS l hl fs hf hg k hk, if_pos (partR_v l fs xs h).1, Option.bind_some, h, Bool.true_and]
  · rw [if_neg h, Bool.eq_false_iff.2 h, Bool.false_and]
theorem repI (l : List S86) (hl : l.length ≤ 1048576) (fs : List S50) (hf : fs.length ≤ 1048576) (hg : ∀ y ∈ fs, y.f1.length ≤ 1048576) (xs : List Int) (hx : xs.length ≤ 1048576) (k : Nat) (hk : 8000100 < k) :
    impl_IsRepair.f k l fs xs = some (repR l fs xs) := by
  unfold impl_IsRepair.f repR impl_Blocks.f
  rw [partI l hl fs hf hg xs hx k hk, Option.bind_some]
  by_cases h : partR l fs xs = true
  · have hv := (partR_v l fs xs h).1
    rw [if_pos h, vDI l hl fs hf hg k (by omega), Option.bind_some, if_pos hv, blsI l fs hv k (by omega), Option.bind_some, Option.bind_some, h, Bool.true_and]
  · rw [if_neg h, Bool.eq_false_iff.2 h, Bool.false_and]

/-! ### a repair's i-th place lies in the i-th block -/
theorem heads_pre (l : List S86) (fs : List S50) (p : Nat) : ∀ (d : Nat), ∃ t, heads l fs (p + d) = heads l fs p ++ t
  | 0 => ⟨[], by simp⟩
  | d + 1 => by
    obtain ⟨t, ht⟩ := heads_pre l fs p d
    rw [show p + (d + 1) = (p + d) + 1 by omega, heads_succ, ht, List.append_assoc]
    exact ⟨_, rfl⟩
theorem heads_grow (l : List S86) (fs : List S50) (hv : vDb l fs = true) (p q : Nat) (h1 : p < q) (h2 : q < fs.length) (hs : skN l fs p q = false) : (heads l fs (p + 1)).length < (heads l fs (q + 1)).length := by
  obtain ⟨hs', h, e1, e2, e3, e4, e5⟩ := heads_last l fs hv q (by omega)
  have hp : p < h := by
    apply Classical.byContradiction
    intro hn
    have : skN l fs h p = true := by
      by_cases e : h = p
      · rw [e]; exact sk_refl l fs p
      · exact sk_mid l fs hv (i := h) (j := p) (m := q) (by omega) h1 h2 e4
    rw [sk_trans l fs (sk_symm l fs this) e4] at hs
    cases hs
  obtain ⟨t, ht⟩ := heads_pre l fs (p + 1) (q - p)
  rw [show p + 1 + (q - p) = q + 1 by omega] at ht
  have hm : h ∈ heads l fs (q + 1) := by rw [e1]; simp
  rw [ht, List.mem_append] at hm
  rcases hm with hm | hm
  · have := ((mem_heads l fs _ _).1 hm).1
    omega
  · rw [ht, List.length_append]
    have := List.length_pos_of_mem hm
    omega
/-- Place i of the list, as a number of facts. -/
def at_ (xs : List Int) (i : Nat) : Nat := (xs.getD i 0).toNat
theorem sel_at (fs : List S50) (xs : List Int) (i : Nat) (h : i < xs.length) : (sel fs xs).getD i z50 = fs.getD (at_ xs i) z50 := by
  unfold sel at_
  exact getD_map _ xs 0 z50 i h
theorem part_apart (l : List S86) (fs : List S50) (xs : List Int) (h : partR l fs xs = true) (i j : Nat) (hi : i < j) (hj : j < xs.length) : skN l fs (at_ xs i) (at_ xs j) = false := by
  unfold partR at h
  rw [Bool.and_eq_true, Bool.and_eq_true, Bool.and_eq_true, beq_iff_eq] at h
  have hl := h.2.2
  unfold bls heads at hl
  rw [List.length_map, sel_len] at hl
  have hh : ((List.range xs.length).filter (isHd l (sel fs xs))).length = (List.range xs.length).length := by rw [List.length_range]; omega
  rw [List.length_filter_eq_length_iff] at hh
  have hd := (isHd_iff l (sel fs xs) j).1 (hh j (by simpa using hj)) i hi
  cases hs : skN l fs (at_ xs i) (at_ xs j) with
  | false => rfl
  | true =>
    have := sk_symm l fs hs
    unfold skN at hd this
    rw [sel_at fs xs i (by omega), sel_at fs xs j hj, this] at hd
    cases hd
theorem at_lt (fs : List S50) (xs : List Int) (ha : asc xs fs.length = true) (i : Nat) (hi : i < xs.length) : at_ xs i < fs.length ∧ ((at_ xs i : Nat) : Int) = xs.getD i 0 := by
  have := (asc_at xs fs.length ha i hi).1
  unfold at_
  omega
theorem at_mono (fs : List S50) (xs : List Int) (ha : asc xs fs.length = true) (i : Nat) (hi : i + 1 < xs.length) : at_ xs i < at_ xs (i + 1) := by
  have h1 := at_lt fs xs ha i (by omega)
  have h2 := at_lt fs xs ha (i + 1) hi
  have := (asc_at xs fs.length ha (i + 1) hi).2
  rw [show i + 1 - 1 = i by omega] at this
  omega

theorem cn_low (l : List S86) (fs : List S50) (xs : List Int) (h : partR l fs xs = true) : ∀ (i : Nat), i < xs.length → i + 1 ≤ (heads l fs (at_ xs i + 1)).length
  | 0, hi => by
    obtain ⟨hv, ha⟩ := partR_v l fs xs h
    obtain ⟨hs, g, e1, _⟩ := heads_last l fs hv (at_ xs 0) (by have := (at_lt fs xs ha 0 hi).1; omega)
    rw [e1]; simp
  | i + 1, hi => by
    obtain ⟨hv, ha⟩ := partR_v l fs xs h
    have h0 := cn_low l fs xs h i (by omega)
    have := heads_grow l fs hv (at_ xs i) (at_ xs (i + 1)) (at_mono fs xs ha i hi) (at_lt fs xs ha (i + 1) hi).1 (part_apart l fs xs h i (i + 1) (by omega) hi)
    omega
theorem cn_high (l : List S86) (fs : List S50) (xs : List Int) (h : partR l fs xs = true) (hm : (heads l fs fs.length).length = xs.length) (d : Nat) : ∀ (i : Nat), i + d + 1 = xs.length → (heads l fs (at_ xs i + 1)).length ≤ i + 1 := by
  obtain ⟨hv, ha⟩ := partR_v l fs xs h
  induction d with
  | zero =>
    intro i hi
    have hlt := (at_lt fs xs ha i (by omega)).1
    obtain ⟨t, ht⟩ := heads_pre l fs (at_ xs i + 1) (fs.length - (at_ xs i + 1))
    rw [show at_ xs i + 1 + (fs.length - (at_ xs i + 1)) = fs.length by omega] at ht
    rw [ht, List.length_append] at hm
    omega
  | succ d ih =>
    intro i hi
    have h0 := ih (i + 1) (by omega)
    have := heads_grow l fs hv (at_ xs i) (at_ xs (i + 1)) (at_mono fs xs ha i (by omega)) (at_lt fs xs ha (i + 1) (by omega)).1 (part_apart l fs xs h i (i + 1) (by omega) (by omega))
    omega
/-- What a repair is to its blocks: as many as there are, and each block holds the place of its own number, and no other. -/
theorem rep_block (l : List S86) (fs : List S50) (xs : List Int) (h : repR l fs xs = true) : (bls l fs fs.length fs.length).length = xs.length ∧ ∀ i, i < xs.length → xs.getD i 0 ∈ (bls l fs fs.length fs.length).getD i [] ∧ ∀ j, j < xs.length → xs.getD j 0 ∈ (bls l fs fs.length fs.length).getD i [] → j = i := by
  unfold repR at h
  rw [Bool.and_eq_true, beq_iff_eq] at h
  obtain ⟨hp, hn⟩ := h
  obtain ⟨hv, ha⟩ := partR_v l fs xs hp
  have hlen : (bls l fs fs.length fs.length).length = xs.length := by omega
  have hm : (heads l fs fs.length).length = xs.length := by unfold bls at hlen; rw [List.length_map] at hlen; exact hlen
  refine ⟨hlen, fun i hi => ?_⟩
  obtain ⟨hlt, hat⟩ := at_lt fs xs ha i hi
  have hc : (heads l fs (at_ xs i + 1)).length = i + 1 := by
    have h1 := cn_low l fs xs hp i hi
    have h2 := cn_high l fs xs hp hm (xs.length - 1 - i) i (by omega)
    omega
  obtain ⟨hs, g, e1, e2, e3, e4, e5⟩ := heads_last l fs hv (at_ xs i) (by omega)
  obtain ⟨t, ht⟩ := heads_pre l fs (at_ xs i + 1) (fs.length - (at_ xs i + 1))
  rw [show at_ xs i + 1 + (fs.length - (at_ xs i + 1)) = fs.length by omega, e1] at ht
  rw [e1, List.length_append] at hc
  have hsl : hs.length = i := by simpa using hc
  have hb : (bls l fs fs.length fs.length).getD i [] = blk l fs g fs.length := by
    unfold bls
    rw [ht, List.append_assoc, List.map_append, List.getD_eq_getElem?_getD, List.getElem?_append_right (by simp; omega)]
    simp [hsl]
  have hmem : ∀ j : Nat, j < fs.length → (((j : Nat) : Int) ∈ blk l fs g fs.length ↔ skN l fs g j = true) := fun j hj => by
    constructor
    · intro hx
      obtain ⟨j', e, _, hs'⟩ := mem_blk l fs g fs.length _ hx
      have : j = j' := by omega
      rw [this]; exact hs'
    · intro hs'
      unfold blk
      exact List.mem_map.2 ⟨j, List.mem_filter.2 ⟨by simpa using hj, hs'⟩, rfl⟩
  rw [hb]
  refine ⟨by rw [← hat]; exact (hmem _ hlt).2 e4, fun j hj hx => ?_⟩
  obtain ⟨hlt', hat'⟩ := at_lt fs xs ha j hj
  rw [← hat'] at hx
  have hg := (hmem _ hlt').1 hx
  have hij := sk_trans l fs (sk_symm l fs e4) hg
  rcases Nat.lt_trichotomy i j with c | c | c
  · rw [part_apart l fs xs hp i j c hj] at hij; cases hij
  · exact c.symm
  · have hji := sk_symm l fs hij
    rw [part_apart l fs xs hp j i c hi] at hji
    cases hji
theorem blk_nodup (l : List S86) (fs : List S50) (h m : Nat) : (blk l fs h m).Nodup := by
  unfold blk
  refine List.Pairwise.map _ (fun a b hab => ?_) (List.Pairwise.filter _ List.nodup_range)
  intro e
  exact hab (by omega)

theorem l7ml (x : List Int) (v : Int) (hx : x.length ≤ 1048576) (d : Nat) : ∀ (i : Nat), i + d = x.length → ∀ k, d < k → spec_l7Has.l0 k x v i = some (decide (v ∈ x.drop i)) := by
  induction d with
  | zero =>
    intro i hd k hk
    obtain ⟨k, rfl, hk⟩ := fuel hk
    rw [spec_l7Has.l0, if_neg (by omega), List.drop_of_length_le (by omega)]
    simp
  | succ d ih =>
    intro i hd k hk
    obtain ⟨k, rfl, hk⟩ := fuel hk
    rw [spec_l7Has.l0, if_pos (by omega), if_pos (by omega), List.drop_eq_getElem_cons (i := i) (l := x) (by omega)]
    have e1 : rd x (i : Int) = x[i] := by unfold rd; rw [Int.toNat_natCast, getD_lt x _ i (by omega)]
    rw [e1, show wrap64 ((i : Int) + 1) = ((i + 1 : Nat) : Int) by rw [w64 (by omega) (by omega)]; omega]
    by_cases h : x[i] = v
    · rw [if_pos h, decide_eq_true (by rw [h]; exact List.mem_cons_self)]
    · rw [if_neg h, ih (i + 1) (by omega) k (by omega)]
      refine congrArg some (decide_eq_decide.2 ⟨fun e => List.mem_cons_of_mem _ e, fun e => ?_⟩)
      rcases List.mem_cons.1 e with e | e
      · exact absurd e.symm h
      · exact e
theorem l7m (x : List Int) (v : Int) (hx : x.length ≤ 1048576) (k : Nat) (hk : x.length < k) : spec_l7Has.f k x v = some (decide (v ∈ x)) := by
  unfold spec_l7Has.f
  have := l7ml x v hx x.length 0 (by omega) k hk
  simpa using this

theorem ixl (b : List Int) (x : Int) (hb : b.length ≤ 1048576) (p : Nat) (hp : p < b.length) (h : ∀ q, q < b.length → (b.getD q 0 = x ↔ q = p)) (d : Nat) : ∀ (j : Nat), j + d = p → ∀ k, d < k → slices_Index_int_int.l0 k b x b.length j = some (p : Int) := by
  induction d with
  | zero =>
    intro j hd k hk
    obtain ⟨k, rfl, hk⟩ := fuel hk
    rw [slices_Index_int_int.l0, if_pos (by omega), if_pos (by omega), if_pos (by omega), rdD, if_pos ((h j (by omega)).2 (by omega)).symm, show j = p by omega]
  | succ d ih =>
    intro j hd k hk
    obtain ⟨k, rfl, hk⟩ := fuel hk
    rw [slices_Index_int_int.l0, if_pos (by omega), if_pos (by omega), if_pos (by omega), rdD, if_neg (fun e => by have := (h j (by omega)).1 e.symm; omega), show wrap64 ((j : Int) + 1) = ((j + 1 : Nat) : Int) by rw [w64 (by omega) (by omega)]; omega]
    exact ih (j + 1) (by omega) k (by omega)
theorem rkInner (xs : List Int) (hx : xs.length ≤ 1048576) (B : List (List Int)) (hB : B.length ≤ 14) (i : Nat) (hi : i < B.length) (b : List Int) (hb : B.getD i [] = b) (hbl : b.length ≤ 14) (p : Nat) (hit : ∀ q, q < b.length → (b.getD q 0 ∈ xs ↔ q = p)) (R : Int × Bool) (K : Nat) (hK : 1048600 ≤ K) (d : Nat) :
    ∀ (j : Nat) (nn : Int), j + d = b.length → (∀ k, K < k → spec_RepairRank.l0 k xs B (if j ≤ p ∧ p < b.length then wrap64 (wrap64 (nn * (b.length : Int)) + (p : Int)) else nn) ((i + 1 : Nat) : Int) = some R) → ∀ k, K + d + 1 < k → spec_RepairRank.l1 k xs B nn i j = some R := by
  have hrl : rd_L3 B (i : Int) = b := by unfold rd_L3; rw [Int.toNat_natCast]; exact hb
  induction d with
  | zero =>
    intro j nn hd hR k hk
    obtain ⟨k, rfl⟩ : ∃ z, k = z + 1 := ⟨k - 1, by omega⟩
    rw [spec_RepairRank.l1, if_pos (by omega), if_pos (by omega), hrl, if_neg (by omega), show wrap64 ((i : Int) + 1) = ((i + 1 : Nat) : Int) by rw [w64 (by omega) (by omega)]; omega]
    have := hR k (by omega)
    rw [if_neg (by omega)] at this
    exact this
  | succ d ih =>
    intro j nn hd hR k hk
    obtain ⟨k, rfl⟩ : ∃ z, k = z + 1 := ⟨k - 1, by omega⟩
    rw [spec_RepairRank.l1, if_pos (by omega), if_pos (by omega), hrl, if_pos (by omega), if_pos (by omega), rdD, l7m xs _ hx k (by omega), Option.bind_some, show wrap64 ((j : Int) + 1) = ((j + 1 : Nat) : Int) by rw [w64 (by omega) (by omega)]; omega]
    by_cases hq : j = p
    · rw [if_pos (by rw [decide_eq_true_iff]; exact (hit j (by omega)).2 hq)]
      refine ih (j + 1) _ (by omega) (fun k' hk' => ?_) k (by omega)
      have := hR k' hk'
      rw [if_pos (by omega)] at this
      rw [if_neg (by omega), hq]
      exact this
    · rw [if_neg (by rw [decide_eq_true_iff]; exact fun e => hq ((hit j (by omega)).1 e))]
      refine ih (j + 1) _ (by omega) (fun k' hk' => ?_) k (by omega)
      have := hR k' hk'
      by_cases hc : j ≤ p ∧ p < b.length
      · rw [if_pos hc] at this
        rw [if_pos (by omega)]
        exact this
      · rw [if_neg hc] at this
        rw [if_neg (by omega)]
        exact this
theorem rkBoth (xs : List Int) (hx : xs.length ≤ 1048576) (B : List (List Int)) (hB : B.length ≤ 14) (hl : B.length = xs.length) (hbl : ∀ i, i < B.length → (B.getD i []).length ≤ 14 ∧ (B.getD i []).Nodup)
    (hb : ∀ i, i < xs.length → xs.getD i 0 ∈ B.getD i [] ∧ ∀ j, j < xs.length → xs.getD j 0 ∈ B.getD i [] → j = i) (d : Nat) : ∀ (i : Nat) (nn : Int), i + d = B.length → ∃ R : Int × Bool,
      (∀ k, 1048600 + 20 * d < k → spec_RepairRank.l0 k xs B nn i = some R) ∧ ∀ k, d + 20 < k → impl_RepairRank.l0 k xs nn B B.length i = some R := by
  induction d with
  | zero =>
    intro i nn hd
    refine ⟨(nn, true), fun k hk => ?_, fun k hk => ?_⟩
    · obtain ⟨k, rfl⟩ : ∃ z, k = z + 1 := ⟨k - 1, by omega⟩
      rw [spec_RepairRank.l0, if_neg (by omega)]
    · obtain ⟨k, rfl⟩ : ∃ z, k = z + 1 := ⟨k - 1, by omega⟩
      rw [impl_RepairRank.l0, if_neg (by omega)]
  | succ d ih =>
    intro i nn hd
    obtain ⟨hm, hu⟩ := hb i (by omega)
    obtain ⟨hbl1, hbl2⟩ := hbl i (by omega)
    generalize hbe : B.getD i [] = b at hm hu hbl1 hbl2
    obtain ⟨p, hp, hpx⟩ := List.getElem_of_mem hm
    have hone : ∀ q, q < b.length → (b.getD q 0 = xs.getD i 0 ↔ q = p) := fun q hq => by
      rw [getD_lt b 0 q hq, ← hpx]
      have hpw := List.pairwise_iff_getElem.1 hbl2
      constructor
      · intro e
        rcases Nat.lt_trichotomy q p with c | c | c
        · exact absurd e (hpw q p hq hp c)
        · exact c
        · exact absurd e.symm (hpw p q hp hq c)
      · intro e
        subst e
        rfl
    have hit : ∀ q, q < b.length → (b.getD q 0 ∈ xs ↔ q = p) := fun q hq => by
      constructor
      · intro e
        obtain ⟨j, hj, hjx⟩ := List.getElem_of_mem e
        have : j = i := hu j hj (by rw [getD_lt xs 0 j hj, hjx, getD_lt b 0 q hq]; exact List.getElem_mem hq)
        subst this
        rw [← getD_lt xs 0 j hj] at hjx
        exact (hone q hq).1 hjx.symm
      · intro e
        rw [(hone q hq).2 e, getD_lt xs 0 i (by omega)]
        exact List.getElem_mem _
    obtain ⟨R, h1, h2⟩ := ih (i + 1) (wrap64 (wrap64 (nn * (b.length : Int)) + (p : Int))) (by omega)
    refine ⟨R, fun k hk => ?_, fun k hk => ?_⟩
    · obtain ⟨k, rfl⟩ : ∃ z, k = z + 1 := ⟨k - 1, by omega⟩
      rw [spec_RepairRank.l0, if_pos (by omega)]
      refine rkInner xs hx B hB i (by omega) b hbe hbl1 p hit R (1048600 + 20 * d) (by omega) b.length 0 nn (by omega) (fun k' hk' => ?_) k (by omega)
      rw [if_pos ⟨Nat.zero_le _, hp⟩]
      exact h1 k' hk'
    · obtain ⟨k, rfl⟩ : ∃ z, k = z + 1 := ⟨k - 1, by omega⟩
      have hrl : rd_L3 B (i : Int) = b := by unfold rd_L3; rw [Int.toNat_natCast]; exact hbe
      have hix := ixl b (xs.getD i 0) (by omega) p hp hone p 0 (by omega) k (by omega)
      rw [impl_RepairRank.l0, if_pos (by omega), if_pos (by omega), if_pos (by omega), if_pos (by omega), hrl, rdD]
      unfold slices_Index_int_int.f
      rw [show slices_Index_int_int.l0 k b (xs.getD i 0) (b.length : Int) 0 = some (p : Int) from hix, Option.bind_some, show wrap64 ((i : Int) + 1) = ((i + 1 : Nat) : Int) by rw [w64 (by omega) (by omega)]; omega]
      exact h2 k (by omega)
theorem rankB (l : List S86) (hl : l.length ≤ 1048576) (fs : List S50) (hf : fs.length ≤ 1048576) (hg : ∀ y ∈ fs, y.f1.length ≤ 1048576) (xs : List Int) (hx : xs.length ≤ 1048576) (k : Nat) (hk : 8000100 < k) :
    ∃ R, spec_RepairRank.f k l fs xs = some R ∧ impl_RepairRank.f k l fs xs = some R := by
  unfold spec_RepairRank.f impl_RepairRank.f
  rw [repS l hl fs hf hg xs hx k hk, repI l hl fs hf hg xs hx k hk, Option.bind_some, Option.bind_some]
  by_cases h : repR l fs xs = true
  · have hp : partR l fs xs = true := by unfold repR at h; rw [Bool.and_eq_true] at h; exact h.1
    have hv := (partR_v l fs xs hp).1
    obtain ⟨q1, q2, q3, q4⟩ := vDb_parts l fs hv
    obtain ⟨e1, e2⟩ := rep_block l fs xs h
    have hn := bls_len l fs fs.length fs.length
    rw [if_pos h, if_pos h, blsS l hl fs hf hg k hk, if_pos hv, blsI l fs hv k (by omega), Option.bind_some, Option.bind_some]
    obtain ⟨R, h1, h2⟩ := rkBoth xs hx (bls l fs fs.length fs.length) (by omega) e1 (fun i hi => by
      have : (bls l fs fs.length fs.length).getD i [] = blk l fs ((heads l fs fs.length).getD i 0) fs.length := by
        unfold bls at hi ⊢
        rw [List.length_map] at hi
        exact getD_map (fun h => blk l fs h fs.length) (heads l fs fs.length) 0 [] i hi
      rw [this]
      have := blk_len l fs ((heads l fs fs.length).getD i 0) fs.length
      exact ⟨by omega, blk_nodup l fs _ _⟩) e2 (bls l fs fs.length fs.length).length 0 0 (by omega)
    exact ⟨R, h1 k (by omega), h2 k (by omega)⟩
  · rw [if_neg h, if_neg h]
    exact ⟨_, rfl, rfl⟩

/-- The sizes of blocks, and their product as the machine reckons it. -/
def szB (bs : List (List Int)) : List Int := bs.map fun b => (b.length : Int)
def prodB : Int → List (List Int) → Int
  | n, [] => n
  | n, b :: bs => prodB (wrap64 (n * (b.length : Int))) bs
theorem rdL_lt (bs : List (List Int)) (i : Nat) (h : i < bs.length) : rd_L3 bs (i : Int) = bs[i] := by
  unfold rd_L3
  rw [Int.toNat_natCast, getD_lt bs _ i h]
theorem sizesSl (bs : List (List Int)) (hb : bs.length ≤ 1048576) (d : Nat) : ∀ (i : Nat), i + d = bs.length → ∀ k, d < k → spec_BlockSizes.l0 k (szB (bs.take i)) bs i = some (szB bs) := by
  induction d with
  | zero =>
    intro i hd k hk
    obtain ⟨k, rfl, hk⟩ := fuel hk
    rw [spec_BlockSizes.l0, if_neg (by omega), List.take_of_length_le (by omega)]
  | succ d ih =>
    intro i hd k hk
    obtain ⟨k, rfl, hk⟩ := fuel hk
    rw [spec_BlockSizes.l0, if_pos (by omega), if_pos (by omega), if_pos (by unfold szB; rw [List.length_map, List.length_take]; omega), show wrap64 ((i : Int) + 1) = ((i + 1 : Nat) : Int) by rw [w64 (by omega) (by omega)]; omega, rdL_lt bs i (by omega)]
    have : szB (bs.take i) ++ [((bs[i].length : Nat) : Int)] = szB (bs.take (i + 1)) := by
      unfold szB
      rw [List.take_succ_eq_append_getElem (by omega), List.map_append]
      rfl
    rw [this]
    exact ih (i + 1) (by omega) k (by omega)
theorem countSl (bs : List (List Int)) (hb : bs.length ≤ 1048576) (d : Nat) : ∀ (i : Nat) (n : Int), i + d = bs.length → ∀ k, d < k → spec_CountRepairs.l0 k n (szB bs) i = some (prodB n (bs.drop i)) := by
  induction d with
  | zero =>
    intro i n hd k hk
    obtain ⟨k, rfl, hk⟩ := fuel hk
    have hz : (szB bs).length = bs.length := by unfold szB; simp
    rw [spec_CountRepairs.l0, if_neg (by omega), List.drop_of_length_le (by omega)]
    rfl
  | succ d ih =>
    intro i n hd k hk
    obtain ⟨k, rfl, hk⟩ := fuel hk
    have hz : (szB bs).length = bs.length := by unfold szB; simp
    have hr : rd (szB bs) (i : Int) = ((bs[i].length : Nat) : Int) := by
      unfold rd szB
      rw [Int.toNat_natCast, getD_lt _ _ i (by simp; omega)]
      simp
    rw [spec_CountRepairs.l0, if_pos (by omega), if_pos (by omega), hr, show wrap64 ((i : Int) + 1) = ((i + 1 : Nat) : Int) by rw [w64 (by omega) (by omega)]; omega, List.drop_eq_getElem_cons (by omega), prodB]
    exact ih (i + 1) _ (by omega) k (by omega)
theorem countIl (bs : List (List Int)) (hb : bs.length ≤ 1048576) (d : Nat) : ∀ (i : Nat) (n : Int), i + d = bs.length → ∀ k, d < k → impl_countRepairs.l0 k n bs bs.length i = some (prodB n (bs.drop i)) := by
  induction d with
  | zero =>
    intro i n hd k hk
    obtain ⟨k, rfl, hk⟩ := fuel hk
    rw [impl_countRepairs.l0, if_neg (by omega), List.drop_of_length_le (by omega)]
    rfl
  | succ d ih =>
    intro i n hd k hk
    obtain ⟨k, rfl, hk⟩ := fuel hk
    rw [impl_countRepairs.l0, if_pos (by omega), if_pos (by omega), if_pos (by omega), rdL_lt bs i (by omega), show wrap64 ((i : Int) + 1) = ((i + 1 : Nat) : Int) by rw [w64 (by omega) (by omega)]; omega, List.drop_eq_getElem_cons (by omega), prodB]
    exact ih (i + 1) _ (by omega) k (by omega)
/-- The number of repairs. -/
def cntR (l : List S86) (fs : List S50) : Int := if vDb l fs = true then prodB 1 (bls l fs fs.length fs.length) else 0
theorem sizesS (l : List S86) (hl : l.length ≤ 1048576) (fs : List S50) (hf : fs.length ≤ 1048576) (hg : ∀ y ∈ fs, y.f1.length ≤ 1048576) (k : Nat) (hk : 8000100 < k) :
    spec_BlockSizes.f k l fs = some (szB (if vDb l fs = true then bls l fs fs.length fs.length else [])) := by
  unfold spec_BlockSizes.f
  rw [blsS l hl fs hf hg k hk, Option.bind_some]
  have hn := bls_len l fs fs.length fs.length
  by_cases h : vDb l fs = true
  · rw [if_pos h]
    exact sizesSl (bls l fs fs.length fs.length) (by omega) (bls l fs fs.length fs.length).length 0 (by omega) k (by omega)
  · rw [if_neg h]
    exact sizesSl [] (by simp) 0 0 (by simp) k (by omega)
theorem countS (l : List S86) (hl : l.length ≤ 1048576) (fs : List S50) (hf : fs.length ≤ 1048576) (hg : ∀ y ∈ fs, y.f1.length ≤ 1048576) (k : Nat) (hk : 8000100 < k) :
    spec_CountRepairs.f k l fs = some (cntR l fs) := by
  unfold spec_CountRepairs.f cntR
  rw [vDS l hl fs hf hg k (by omega), Option.bind_some]
  have hn := bls_len l fs fs.length fs.length
  by_cases h : vDb l fs = true
  · rw [if_pos h, if_pos h, sizesS l hl fs hf hg k hk, if_pos h, Option.bind_some]
    exact countSl (bls l fs fs.length fs.length) (by omega) (bls l fs fs.length fs.length).length 0 1 (by omega) k (by omega)
  · rw [if_neg h, if_neg h]
theorem countI (l : List S86) (hl : l.length ≤ 1048576) (fs : List S50) (hf : fs.length ≤ 1048576) (hg : ∀ y ∈ fs, y.f1.length ≤ 1048576) (k : Nat) (hk : 8000100 < k) :
    impl_CountRepairs.f k l fs = some (cntR l fs) := by
  unfold impl_CountRepairs.f cntR
  rw [vDI l hl fs hf hg k (by omega), Option.bind_some]
  have hn := bls_len l fs fs.length fs.length
  by_cases h : vDb l fs = true
  · rw [if_pos h, if_pos h, blsI l fs h k (by omega), Option.bind_some]
    unfold impl_countRepairs.f
    have hc := countIl (bls l fs fs.length fs.length) (by omega) (bls l fs fs.length fs.length).length 0 1 (by omega) k (by omega)
    rw [show (0 : Int) = ((0 : Nat) : Int) from rfl, hc]
    rfl
  · rw [if_neg h, if_neg h]

/-! ### marks: what the laws write into results, and read again -/
def cnt : Int → Nat → List Int
  | _, 0 => []
  | a, d + 1 => a :: cnt (a + 1) d
theorem cnt_len : ∀ (a : Int) (d : Nat), (cnt a d).length = d
  | _, 0 => rfl
  | a, d + 1 => by rw [cnt, List.length_cons, cnt_len]
theorem markIl (n : Nat) (hn : n ≤ 1048576) (d : Nat) : ∀ (i : Nat) (xs : List Int) (a : Int), xs.length = n → i + d = n → 0 ≤ a → a + (d : Int) ≤ 4000000000000000000 → ∀ k, d < k → laws_markIntS.l0 k xs a i = some (a + d, xs.take i ++ cnt a d) := by
  induction d with
  | zero =>
    intro i xs a hx hd _ _ k hk
    obtain ⟨k, rfl, hk⟩ := fuel hk
    rw [laws_markIntS.l0, if_neg (by omega), List.take_of_length_le (by omega), cnt, List.append_nil]
    simp
  | succ d ih =>
    intro i xs a hx hd h0 h1 k hk
    obtain ⟨k, rfl, hk⟩ := fuel hk
    rw [laws_markIntS.l0, if_pos (by omega), if_pos (by omega), Int.toNat_natCast, w64 (by omega) (by omega), show wrap64 ((i : Int) + 1) = ((i + 1 : Nat) : Int) by rw [w64 (by omega) (by omega)]; omega, ih (i + 1) (xs.set i a) (a + 1) (by simpa using hx) (by omega) (by omega) (by omega) k (by omega), take_set_succ xs i a (by omega), cnt, List.append_assoc]
    congr 2
    omega
theorem markI (xs : List Int) (hn : xs.length ≤ 1048576) (a : Int) (h0 : 0 ≤ a) (h1 : a ≤ 1000000000000000000) (k : Nat) (hk : xs.length < k) : laws_markIntS.f k xs a = some (a + xs.length, cnt a xs.length) := by
  unfold laws_markIntS.f
  exact markIl xs.length hn xs.length 0 xs a rfl (by omega) h0 (by omega) k hk
theorem heldIl (a0 : Int) (n : Nat) (h0 : 0 ≤ a0) (h1 : a0 ≤ 1000000000000000000) (hn : n ≤ 1048576) (d : Nat) : ∀ (i : Nat), i + d = n → (cnt a0 n).drop i = cnt (a0 + i) d → ∀ k, d < k → laws_heldIntS.l0 k (cnt a0 n) (a0 + i) i = some (a0 + n) := by
  have hl := cnt_len a0 n
  induction d with
  | zero =>
    intro i hd _ k hk
    obtain ⟨k, rfl, hk⟩ := fuel hk
    rw [laws_heldIntS.l0, if_neg (by omega), show i = n by omega]
  | succ d ih =>
    intro i hd hc k hk
    obtain ⟨k, rfl, hk⟩ := fuel hk
    rw [cnt, List.drop_eq_getElem_cons (by omega)] at hc
    obtain ⟨c1, c2⟩ := List.cons.inj hc
    have hr : rd (cnt a0 n) (i : Int) = a0 + i := by unfold rd; rw [Int.toNat_natCast, getD_lt _ _ i (by omega)]; exact c1
    rw [laws_heldIntS.l0, if_pos (by omega), if_pos (by omega), if_pos hr, show wrap64 ((i : Int) + 1) = ((i + 1 : Nat) : Int) by rw [w64 (by omega) (by omega)]; omega, show wrap64 (a0 + (i : Int) + 1) = a0 + ((i + 1 : Nat) : Int) by rw [w64 (by omega) (by omega)]; omega]
    refine ih (i + 1) (by omega) ?_ k (by omega)
    rw [c2]
    congr 1
    omega
theorem heldI (n : Nat) (a0 : Int) (h0 : 0 ≤ a0) (h1 : a0 ≤ 1000000000000000000) (hn : n ≤ 1048576) (k : Nat) (hk : n < k) : laws_heldIntS.f k (cnt a0 n) a0 = some (a0 + n) := by
  unfold laws_heldIntS.f
  have := heldIl a0 n h0 h1 hn n 0 (by omega) (by simp) k hk
  simpa using this
theorem textl (d : Nat) : ∀ (x : Int) (s : ByteArray), 0 ≤ x → x < 10 ^ d → x ≤ 4000000000 → s.size + d ≤ 1000 → ∀ k, d < k → ∃ t, laws_markText.l0 k x s = some t := by
  induction d with
  | zero =>
    intro x s h0 h1 _ hs k hk
    rw [Int.pow_zero] at h1
    obtain ⟨k, rfl, hk⟩ := fuel hk
    rw [laws_markText.l0, if_neg (by omega), if_pos (by omega)]
    exact ⟨_, rfl⟩
  | succ d ih =>
    intro x s h0 h1 h2 hs k hk
    obtain ⟨k, rfl, hk⟩ := fuel hk
    by_cases hx : x > 0
    · have hz : ∀ z : Int, (strOfNums [z]).size = 1 := fun z => by rw [sn_size]; rfl
      rw [laws_markText.l0, if_pos hx, Option.bind_some, if_pos (by rw [hz]; omega), td h0, w64 (n := x / 10) (by omega) (by omega)]
      exact ih (x / 10) _ (by omega) (by rw [Int.pow_succ] at h1; omega) (by omega) (by rw [ByteArray.size_append, hz]; omega) k (by omega)
    · rw [laws_markText.l0, if_neg hx, if_pos (by omega)]
      exact ⟨_, rfl⟩
theorem markT (x : Int) (h0 : 0 ≤ x) (h1 : x ≤ 1000000000) (k : Nat) (hk : 20 < k) : ∃ t, laws_markText.f k x = some t := by
  unfold laws_markText.f
  by_cases h : x ≤ 0
  · exact ⟨_, if_pos h⟩
  · rw [if_neg h]
    have hp : (10 : Int) ^ 10 = 10000000000 := by decide
    exact textl 10 x ⟨#[]⟩ h0 (by omega) (by omega) (by decide) k (by omega)
theorem markRl (n : Nat) (hn : n ≤ 1048576) (d : Nat) : ∀ (i : Nat) (xs : List S86) (a : Int), xs.length = n → i + d = n → 0 ≤ a → a + 3 * (d : Int) ≤ 1000000000 → ∀ k, d + 21 < k → ∃ ys : List S86, laws_markRelationS.l0 k xs a i = some (a + 3 * d, ys) := by
  induction d with
  | zero =>
    intro i xs a hx hd _ _ k hk
    obtain ⟨k, rfl, hk⟩ := fuel hk
    rw [laws_markRelationS.l0, if_neg (by omega)]
    exact ⟨xs, by simp⟩
  | succ d ih =>
    intro i xs a hx hd h0 h1 k hk
    obtain ⟨k, rfl, hk⟩ := fuel hk
    obtain ⟨t, ht⟩ := markT a h0 (by omega) k (by omega)
    rw [laws_markRelationS.l0, if_pos (by omega), ht, Option.bind_some, if_pos (by omega), Option.bind_some, Option.bind_some, w64 (n := a + 1) (by omega) (by omega), w64 (n := a + 1 + 1) (by omega) (by omega), w64 (n := a + 1 + 1 + 1) (by omega) (by omega), show wrap64 ((i : Int) + 1) = ((i + 1 : Nat) : Int) by rw [w64 (by omega) (by omega)]; omega, show a + 3 * ((d + 1 : Nat) : Int) = a + 1 + 1 + 1 + 3 * (d : Int) by omega]
    exact ih (i + 1) _ (a + 1 + 1 + 1) (by simpa using hx) (by omega) (by omega) (by omega) k (by omega)
theorem markR (xs : List S86) (hn : xs.length ≤ 1048576) (a : Int) (h0 : 0 ≤ a) (h1 : a ≤ 100000000) (k : Nat) (hk : xs.length + 21 < k) : ∃ ys : List S86, laws_markRelationS.f k xs a = some (a + 3 * xs.length, ys) := by
  unfold laws_markRelationS.f
  exact markRl xs.length hn xs.length 0 xs a rfl (by omega) h0 (by omega) k hk

/-! ### marks in a database -/
theorem markFl (n : Nat) (hn : n ≤ 1048576) (d : Nat) : ∀ (i : Nat) (xs : List S50) (a : Int), xs.length = n → (∀ y ∈ xs, y.f1.length ≤ 1048576) → i + d = n → 0 ≤ a → a + 1048577 * (d : Int) ≤ 100000000000000000 → ∀ k, d + 1048577 < k → ∃ (m : Int) (ys : List S50), laws_markFactS.l0 k xs a i = some (m, ys) ∧ 0 ≤ m ∧ m ≤ a + 1048577 * (d : Int) := by
  induction d with
  | zero =>
    intro i xs a hx _ hd h0 _ k hk
    obtain ⟨k, rfl, hk⟩ := fuel hk
    rw [laws_markFactS.l0, if_neg (by omega)]
    exact ⟨a, xs, rfl, h0, by omega⟩
  | succ d ih =>
    intro i xs a hx hg hd h0 h1 k hk
    obtain ⟨k, rfl, hk⟩ := fuel hk
    have hr : (rd_T50 xs i).f1.length ≤ 1048576 := by
      unfold rd_T50; rw [Int.toNat_natCast, getD_lt _ _ i (by omega)]; exact hg _ (List.getElem_mem _)
    rw [laws_markFactS.l0, if_pos (by omega), if_pos (by omega), w64 (n := a + 1) (by omega) (by omega), markI _ hr _ (by omega) (by omega) k (by omega), Option.bind_some, show wrap64 ((i : Int) + 1) = ((i + 1 : Nat) : Int) by rw [w64 (by omega) (by omega)]; omega]
    obtain ⟨m, ys, e1, e2, e3⟩ := ih (i + 1) (xs.set (i : Int).toNat ⟨a, cnt (a + 1) (rd_T50 xs i).f1.length⟩) (a + 1 + ((rd_T50 xs i).f1.length : Int)) (by rw [List.length_set]; exact hx) (fun y hy => by
      rcases List.mem_or_eq_of_mem_set hy with h | h
      · exact hg y h
      · rw [h, cnt_len]; exact hr) (by omega) (by omega) (by push_cast at h1 ⊢; omega) k (by omega)
    exact ⟨m, ys, e1, e2, by push_cast at e3 ⊢; omega⟩
theorem markD (l : List S86) (fs : List S50) (hl : l.length ≤ 1048576) (hf : fs.length ≤ 1048576) (hg : ∀ y ∈ fs, y.f1.length ≤ 1048576) (k : Nat) (hk : 2097154 < k) : ∃ (m : Int) (ys : List S86) (zs : List S50), laws_markDatabase.f k l fs 1 = some (m, ys, zs) ∧ 0 ≤ m ∧ m ≤ 1000000000000000000 := by
  obtain ⟨ys, hys⟩ := markR l hl 1 (by omega) (by omega) k (by omega)
  obtain ⟨m, zs, hz, hm, hm2⟩ := markFl fs.length hf fs.length 0 fs (1 + 3 * l.length) rfl hg (by omega) (by omega) (by omega) k (by omega)
  refine ⟨m, ys, zs, ?_, hm, by omega⟩
  unfold laws_markDatabase.f laws_markFactS.f
  rw [hys, Option.bind_some, show (0 : Int) = ((0 : Nat) : Int) from rfl, hz]
  rfl

theorem ex_head (l : List S86) (fs : List S50) (j : Nat) : ∃ h, h ≤ j ∧ isHd l fs h = true ∧ skN l fs h j = true := by
  induction j using Nat.strongRecOn with
  | ind j ih =>
    by_cases hj : isHd l fs j = true
    · exact ⟨j, Nat.le_refl _, hj, sk_refl l fs j⟩
    · have : ¬ ∀ i, i < j → skN l fs j i = false := fun h => hj ((isHd_iff l fs j).2 h)
      have : ∃ i, i < j ∧ skN l fs j i = true := by
        refine Classical.byContradiction fun hn => this fun i hi => ?_
        refine Bool.eq_false_iff.2 fun e => hn ⟨i, hi, e⟩
      obtain ⟨i, hi, he⟩ := this
      obtain ⟨h, h1, h2, h3⟩ := ih i hi
      exact ⟨h, by omega, h2, sk_trans l fs h3 (sk_symm l fs he)⟩
theorem blk_eq (l : List S86) (fs : List S50) (h j m : Nat) (hk : skN l fs h j = true) : blk l fs h m = blk l fs j m := by
  unfold blk
  congr 1
  apply List.filter_congr
  intro i _
  apply Bool.eq_iff_iff.2
  exact ⟨fun e => sk_trans l fs (sk_symm l fs hk) e, fun e => sk_trans l fs hk e⟩
theorem blk_mem (l : List S86) (fs : List S50) (h j m : Nat) (hj : j < m) (hk : skN l fs h j = true) : (j : Int) ∈ blk l fs h m := by
  unfold blk
  exact List.mem_map.2 ⟨j, List.mem_filter.2 ⟨List.mem_range.2 hj, hk⟩, rfl⟩
theorem blk_self (l : List S86) (fs : List S50) (h m : Nat) (x : Int) (hx : x ∈ blk l fs h m) : blk l fs x.toNat m = blk l fs h m ∧ 0 ≤ x ∧ x < m := by
  obtain ⟨j, rfl, hj, hk⟩ := mem_blk l fs h m x hx
  exact ⟨by rw [Int.toNat_natCast]; exact (blk_eq l fs h j m hk).symm, by omega, by omega⟩
theorem bls_mem_len (l : List S86) (fs : List S50) (m t : Nat) (b : List Int) (hb : b ∈ bls l fs m t) : b.length ≤ t := by
  obtain ⟨g, _, rfl⟩ := List.mem_map.1 hb
  exact blk_len l fs g t

/-! ### insertion: what spec.l7Sorted comes to -/
def plc (v : Int) (out : List Int) : Nat → Nat
  | 0 => 0
  | j + 1 => if out.getD j 0 > v then plc v out j else j + 1
theorem plc_le (v : Int) (out : List Int) : ∀ (j : Nat), plc v out j ≤ j
  | 0 => Nat.le_refl _
  | j + 1 => by
    rw [plc]
    have := plc_le v out j
    split <;> omega
def insV (out : List Int) (v : Int) : List Int := out.take (plc v out out.length) ++ [v] ++ out.drop (plc v out out.length)
def srt (l : List Int) : List Int := l.foldl insV []
theorem insV_len (out : List Int) (v : Int) : (insV out v).length = out.length + 1 := by
  have := plc_le v out out.length
  unfold insV
  simp only [List.length_append, List.length_take, List.length_drop, List.length_cons, List.length_nil]
  omega
theorem srt_snoc (l : List Int) (v : Int) : srt (l ++ [v]) = insV (srt l) v := by
  unfold srt
  rw [List.foldl_append]
  rfl
theorem srt_len (l : List Int) : (srt l).length = l.length := by
  have h : ∀ (l acc : List Int), (l.foldl insV acc).length = acc.length + l.length := by
    intro l
    induction l with
    | nil => intro acc; simp
    | cons v l ih => intro acc; rw [List.foldl_cons, ih, insV_len, List.length_cons]; omega
  rw [srt, h]
  simp
theorem srtIn (l out : List Int) (ho : out.length ≤ 1000) (i : Nat) (hi : i < l.length) (hl : l.length ≤ 1000) (R : List Int) (K : Nat) : ∀ (j : Nat), (∀ k, K < k → spec_l7Sorted.l0 k l (out.take (plc (l.getD i 0) out j) ++ [l.getD i 0] ++ out.drop (plc (l.getD i 0) out j)) ((i + 1 : Nat) : Int) = some R) → j ≤ out.length → ∀ k, K + j + 1 < k → spec_l7Sorted.l1 k l out i j = some R
  | 0, hR, hj, k, hk => by
    obtain ⟨k, rfl⟩ : ∃ z, k = z + 1 := ⟨k - 1, by omega⟩
    have := hR k (by omega)
    rw [plc] at this
    rw [spec_l7Sorted.l1, if_neg (by omega)]
    simp only [Option.bind_some]
    rw [if_pos (by omega), if_pos (by omega), if_pos (by simp), if_pos (by omega), if_pos (by omega), if_pos (by simp), if_pos (by simp; omega), rdD, List.nil_append, show wrap64 ((i : Int) + 1) = ((i + 1 : Nat) : Int) by rw [w64 (by omega) (by omega)]; omega]
    exact this
  | j + 1, hR, hj, k, hk => by
    obtain ⟨k, rfl⟩ : ∃ z, k = z + 1 := ⟨k - 1, by omega⟩
    rw [plc] at hR
    have e0 : wrap64 (((j + 1 : Nat) : Int) - 1) = (j : Int) := by rw [w64 (by omega) (by omega)]; omega
    rw [spec_l7Sorted.l1, if_pos (by omega), e0, if_pos (by omega), if_pos (by omega), if_pos (by omega), if_pos (by omega), rdD, rdD]
    by_cases c : out.getD j 0 > l.getD i 0
    · rw [if_pos c] at hR
      rw [if_pos c]
      exact srtIn l out ho i hi hl R K j hR (by omega) k (by omega)
    · rw [if_neg c] at hR
      rw [if_neg c]
      simp only [Option.bind_some]
      have := hR k (by omega)
      have hm : (out.take (j + 1)).length ≤ 1000 := by rw [List.length_take]; omega
      rw [if_pos (by omega), if_pos (by omega), if_pos (by simp only [List.length_nil, Int.toNat_natCast]; omega), if_pos (by simp only [List.nil_append, List.length_cons, List.length_nil, Int.toNat_natCast]; omega), if_pos (by simp only [List.nil_append, List.length_append, List.length_drop, List.length_cons, List.length_nil, Int.toNat_natCast]; omega), List.nil_append, Int.toNat_natCast, show wrap64 ((i : Int) + 1) = ((i + 1 : Nat) : Int) by rw [w64 (by omega) (by omega)]; omega]
      exact this
theorem srtOut (l : List Int) (hl : l.length ≤ 1000) (d : Nat) : ∀ (i : Nat), i + d = l.length → ∀ k, 1002 * d < k → spec_l7Sorted.l0 k l (srt (l.take i)) i = some (srt l) := by
  induction d with
  | zero =>
    intro i hd k hk
    obtain ⟨k, rfl⟩ : ∃ z, k = z + 1 := ⟨k - 1, by omega⟩
    rw [spec_l7Sorted.l0, if_neg (by omega), List.take_of_length_le (by omega)]
  | succ d ih =>
    intro i hd k hk
    obtain ⟨k, rfl⟩ : ∃ z, k = z + 1 := ⟨k - 1, by omega⟩
    have hn := srt_len (l.take i)
    rw [List.length_take] at hn
    rw [spec_l7Sorted.l0, if_pos (by omega)]
    refine srtIn l (srt (l.take i)) (by omega) i (by omega) hl (srt l) (1002 * d) _ (fun k' hk' => ?_) (Nat.le_refl _) k (by omega)
    have := ih (i + 1) (by omega) k' hk'
    rw [List.take_succ_eq_append_getElem (by omega), srt_snoc, ← getD_lt l 0 i (by omega)] at this
    exact this
theorem srtS (l : List Int) (hl : l.length ≤ 1000) (k : Nat) (hk : 1002 * l.length < k) : spec_l7Sorted.f k l = some (srt l) := by
  unfold spec_l7Sorted.f
  have := srtOut l hl l.length 0 (by omega) k hk
  exact this
/-! ### sorted lists -/
theorem asc_ext : ∀ (xs ys : List Int), xs.Pairwise (· < ·) → ys.Pairwise (· < ·) → (∀ x, x ∈ xs ↔ x ∈ ys) → xs = ys
  | [], [], _, _, _ => rfl
  | [], y :: ys, _, _, h => absurd ((h y).2 List.mem_cons_self) (by simp)
  | x :: xs, [], _, _, h => absurd ((h x).1 List.mem_cons_self) (by simp)
  | x :: xs, y :: ys, hx, hy, h => by
    rw [List.pairwise_cons] at hx hy
    have e : x = y := by
      have h1 := (h x).1 List.mem_cons_self
      have h2 := (h y).2 List.mem_cons_self
      rcases List.mem_cons.1 h1 with h1 | h1
      · exact h1
      · rcases List.mem_cons.1 h2 with h2 | h2
        · exact h2.symm
        · have := hx.1 y h2
          have := hy.1 x h1
          omega
    subst e
    refine congrArg (x :: ·) (asc_ext xs ys hx.2 hy.2 fun z => ⟨fun hz => ?_, fun hz => ?_⟩)
    · have hl := hx.1 z hz
      rcases List.mem_cons.1 ((h z).1 (List.mem_cons_of_mem _ hz)) with e | e
      · omega
      · exact e
    · have hl := hy.1 z hz
      rcases List.mem_cons.1 ((h z).2 (List.mem_cons_of_mem _ hz)) with e | e
      · omega
      · exact e
theorem plc_hi (v : Int) (out : List Int) : ∀ (j t : Nat), plc v out j ≤ t → t < j → v < out.getD t 0
  | 0, t, _, h => by omega
  | j + 1, t, h1, h2 => by
    rw [plc] at h1
    by_cases c : out.getD j 0 > v
    · rw [if_pos c] at h1
      by_cases e : t = j
      · rw [e]; exact c
      · exact plc_hi v out j t h1 (by omega)
    · rw [if_neg c] at h1
      omega
theorem plc_lo (v : Int) (out : List Int) : ∀ (j : Nat), 0 < plc v out j → out.getD (plc v out j - 1) 0 ≤ v
  | 0, h => by rw [plc] at h; omega
  | j + 1, h => by
    rw [plc] at h ⊢
    by_cases c : out.getD j 0 > v
    · rw [if_pos c] at h ⊢
      exact plc_lo v out j h
    · rw [if_neg c] at h ⊢
      rw [Nat.add_sub_cancel]
      omega
theorem insV_mem (out : List Int) (v x : Int) : x ∈ insV out v ↔ x ∈ out ∨ x = v := by
  unfold insV
  rw [List.mem_append, List.mem_append, List.mem_singleton]
  constructor
  · rintro ((h | h) | h)
    · exact .inl (List.mem_of_mem_take h)
    · exact .inr h
    · exact .inl (List.mem_of_mem_drop h)
  · rintro (h | h)
    · rw [← List.take_append_drop (plc v out out.length) out, List.mem_append] at h
      rcases h with h | h
      · exact .inl (.inl h)
      · exact .inr h
    · exact .inl (.inr h)
theorem insV_asc (out : List Int) (v : Int) (ha : out.Pairwise (· < ·)) (hv : v ∉ out) : (insV out v).Pairwise (· < ·) := by
  have hp := plc_le v out out.length
  have hg := List.pairwise_iff_getElem.1 ha
  have hlo : ∀ x ∈ out.take (plc v out out.length), x < v := by
    intro x hx
    obtain ⟨i, hi, rfl⟩ := List.getElem_of_mem hx
    rw [List.length_take] at hi
    rw [List.getElem_take]
    have h1 := plc_lo v out out.length (by omega)
    rw [getD_lt out 0 _ (by omega)] at h1
    have h2 : out[i] ≤ out[plc v out out.length - 1] := by
      by_cases e : i = plc v out out.length - 1
      · simp only [e]; exact Int.le_refl _
      · have := hg i (plc v out out.length - 1) (by omega) (by omega) (by omega)
        omega
    have h3 : out[i] ≠ v := fun e => hv (e ▸ List.getElem_mem _)
    omega
  have hhi : ∀ x ∈ out.drop (plc v out out.length), v < x := by
    intro x hx
    obtain ⟨i, hi, rfl⟩ := List.getElem_of_mem hx
    rw [List.length_drop] at hi
    rw [List.getElem_drop]
    have h1 := plc_hi v out out.length (plc v out out.length + i) (by omega) (by omega)
    rw [getD_lt out 0 _ (by omega)] at h1
    exact h1
  unfold insV
  rw [List.append_assoc, List.pairwise_append]
  refine ⟨ha.sublist (List.take_sublist _ _), ?_, fun x hx y hy => ?_⟩
  · rw [List.singleton_append, List.pairwise_cons]
    exact ⟨hhi, ha.sublist (List.drop_sublist _ _)⟩
  · rcases List.mem_append.1 hy with hy | hy
    · rw [List.mem_singleton] at hy
      rw [hy]
      exact hlo x hx
    · have := hlo x hx
      have := hhi y hy
      omega
theorem srt_both : ∀ (l acc : List Int), acc.Pairwise (· < ·) → l.Nodup → (∀ x ∈ l, x ∉ acc) → (l.foldl insV acc).Pairwise (· < ·) ∧ ∀ x, x ∈ l.foldl insV acc ↔ x ∈ acc ∨ x ∈ l
  | [], acc, ha, _, _ => ⟨ha, fun x => by simp⟩
  | v :: l, acc, ha, hn, hd => by
    rw [List.nodup_cons] at hn
    have h1 := hd v List.mem_cons_self
    obtain ⟨g1, g2⟩ := srt_both l (insV acc v) (insV_asc acc v ha h1) hn.2 fun x hx hm => by
      rcases (insV_mem acc v x).1 hm with h | h
      · exact hd x (List.mem_cons_of_mem _ hx) h
      · exact hn.1 (h ▸ hx)
    refine ⟨g1, fun x => ?_⟩
    rw [List.foldl_cons, g2, insV_mem, List.mem_cons, or_assoc]
/-- What is sorted is the ascending list of the same numbers. -/
theorem srt_eq (l ys : List Int) (hn : l.Nodup) (ha : ys.Pairwise (· < ·)) (hm : ∀ x, x ∈ l ↔ x ∈ ys) : srt l = ys := by
  obtain ⟨g1, g2⟩ := srt_both l [] List.Pairwise.nil hn (fun x _ h => by cases h)
  exact asc_ext _ _ g1 ha fun x => by unfold srt; rw [g2]; simp [hm x]

/-! ### a repair by its number -/
theorem bls_pw (l : List S86) (fs : List S50) (hv : vDb l fs = true) : (bls l fs fs.length fs.length).Pairwise (fun b c => ∀ x ∈ b, ∀ y ∈ c, x < y) := by
  unfold bls heads
  rw [List.pairwise_map]
  have hp : ((List.range fs.length).filter (isHd l fs)).Pairwise (· < ·) := List.Pairwise.filter _ List.pairwise_lt_range
  refine List.Pairwise.imp_of_mem (fun {g h} hg hh hlt x hx y hy => ?_) hp
  obtain ⟨i, rfl, hi, hsi⟩ := mem_blk l fs g fs.length x hx
  obtain ⟨j, rfl, hj, hsj⟩ := mem_blk l fs h fs.length y hy
  have hh2 := (List.mem_filter.1 hh).2
  have hhl := List.mem_range.1 (List.mem_filter.1 hh).1
  have hj2 : h ≤ j := by
    rcases Nat.lt_or_ge j h with c | c
    · have := (isHd_iff l fs h).1 hh2 j c
      rw [hsj] at this
      cases this
    · exact c
  rcases Nat.lt_or_ge i j with c | c
  · omega
  · exfalso
    have : skN l fs g h = true := by
      rcases Nat.lt_or_ge h i with c2 | c2
      · exact sk_mid l fs hv hlt c2 hi hsi
      · have : i = h := by omega
        rw [← this]
        exact hsi
    have h3 := (isHd_iff l fs h).1 hh2 g hlt
    rw [sk_symm l fs this] at h3
    cases h3
theorem bls_ne (l : List S86) (fs : List S50) (b : List Int) (hb : b ∈ bls l fs fs.length fs.length) : 0 < b.length ∧ b.length ≤ fs.length := by
  unfold bls at hb
  obtain ⟨h, hh, rfl⟩ := List.mem_map.1 hb
  have hl := ((mem_heads l fs _ _).1 hh).1
  have := blk_mem l fs h h fs.length hl (sk_refl l fs h)
  exact ⟨List.length_pos_of_mem this, blk_len l fs h fs.length⟩

/-- The places of a repair by its number, from the last block on. -/
def nr : List (List Int) → Int → List Int
  | [], _ => []
  | b :: bs, k => rd b (Int.tmod k b.length) :: nr bs (wrap64 (Int.tdiv k b.length))
theorem nr_len : ∀ (bs : List (List Int)) (k : Int), (nr bs k).length = bs.length
  | [], _ => rfl
  | b :: bs, k => by rw [nr, List.length_cons, List.length_cons, nr_len bs]
theorem dv (k : Int) (n : Nat) (h0 : 0 ≤ k) (h1 : k ≤ 9223372036854775807) (hn : 0 < n) : 0 ≤ Int.tmod k n ∧ Int.tmod k n < n ∧ 0 ≤ wrap64 (Int.tdiv k n) ∧ wrap64 (Int.tdiv k n) ≤ 9223372036854775807 := by
  have h2 : (0 : Int) < n := by omega
  have h3 := Int.emod_nonneg k (show (n : Int) ≠ 0 by omega)
  have h4 := Int.emod_lt_of_pos k h2
  have h5 := Int.ediv_nonneg h0 (Int.le_of_lt h2)
  have h6 : k / n ≤ k := Int.ediv_le_self _ h0
  rw [tm h0, td h0, w64 (by omega) (by omega)]
  exact ⟨h3, h4, h5, by omega⟩
theorem nr_mem : ∀ (bs : List (List Int)) (k : Int), (∀ b ∈ bs, 0 < b.length) → 0 ≤ k → k ≤ 9223372036854775807 → ∀ x ∈ nr bs k, ∃ b ∈ bs, x ∈ b
  | [], _, _, _, _, x, hx => by cases hx
  | b :: bs, k, hb, h0, h1, x, hx => by
    have hbl := hb b List.mem_cons_self
    obtain ⟨d1, d2, d3, d4⟩ := dv k b.length h0 h1 hbl
    rw [nr] at hx
    rcases List.mem_cons.1 hx with e | e
    · refine ⟨b, List.mem_cons_self, ?_⟩
      rw [e]
      unfold rd
      exact getD_mem b 0 _ (by omega)
    · obtain ⟨c, hc, hxc⟩ := nr_mem bs _ (fun c hc => hb c (List.mem_cons_of_mem _ hc)) d3 d4 x e
      exact ⟨c, List.mem_cons_of_mem _ hc, hxc⟩
theorem nr_pw : ∀ (bs : List (List Int)) (k : Int), (∀ b ∈ bs, 0 < b.length) → 0 ≤ k → k ≤ 9223372036854775807 → bs.Pairwise (fun b c => ∀ x ∈ b, ∀ y ∈ c, y < x) → (nr bs k).Pairwise (fun x y => y < x)
  | [], _, _, _, _, _ => List.Pairwise.nil
  | b :: bs, k, hb, h0, h1, hp => by
    have hbl := hb b List.mem_cons_self
    obtain ⟨d1, d2, d3, d4⟩ := dv k b.length h0 h1 hbl
    rw [List.pairwise_cons] at hp
    rw [nr, List.pairwise_cons]
    refine ⟨fun y hy => ?_, nr_pw bs _ (fun c hc => hb c (List.mem_cons_of_mem _ hc)) d3 d4 hp.2⟩
    obtain ⟨c, hc, hyc⟩ := nr_mem bs _ (fun c hc => hb c (List.mem_cons_of_mem _ hc)) d3 d4 y hy
    refine hp.1 c hc _ ?_ y hyc
    unfold rd
    exact getD_mem b 0 _ (by omega)
theorem nthSl (B : List (List Int)) (hB : B.length ≤ 14) (hb : ∀ b ∈ B, 0 < b.length) (m : Nat) : ∀ (K : Int) (out : List Int), m ≤ B.length → out.length + m ≤ 20 → 0 ≤ K → K ≤ 9223372036854775807 → ∀ k, 20100 + m < k → spec_NthRepair.l0 k K B out ((m : Int) - 1) = some (srt (out ++ nr (B.take m).reverse K), true) := by
  induction m with
  | zero =>
    intro K out hm ho h0 h1 k hk
    obtain ⟨k, rfl⟩ : ∃ z, k = z + 1 := ⟨k - 1, by omega⟩
    rw [spec_NthRepair.l0, if_neg (by omega), srtS out (by omega) k (by omega)]
    simp [nr]
  | succ m ih =>
    intro K out hm ho h0 h1 k hk
    obtain ⟨k, rfl⟩ : ∃ z, k = z + 1 := ⟨k - 1, by omega⟩
    have hbl := hb B[m] (List.getElem_mem _)
    obtain ⟨d1, d2, d3, d4⟩ := dv K B[m].length h0 h1 hbl
    rw [spec_NthRepair.l0, show ((m + 1 : Nat) : Int) - 1 = (m : Int) by omega, if_pos (by omega), if_pos (by omega), if_pos (by omega), rdL_lt B m (by omega), if_neg (by omega), if_pos d1, if_pos d2, if_pos (by omega), show wrap64 ((m : Int) - 1) = (m : Int) - 1 by rw [w64 (by omega) (by omega)], ih _ _ (by omega) (by simp; omega) d3 d4 k (by omega), List.append_assoc, List.take_succ_eq_append_getElem (by omega), List.reverse_append]
    rfl
theorem nthIl (B : List (List Int)) (hB : B.length ≤ 14) (hb : ∀ b ∈ B, 0 < b.length) (m : Nat) : ∀ (K : Int) (out : List Int), m ≤ B.length → out.length = B.length → 0 ≤ K → K ≤ 9223372036854775807 → ∀ k, m < k → impl_nthRepair.l0 k B K out ((m : Int) - 1) = some ((nr (B.take m).reverse K).reverse ++ out.drop m) := by
  induction m with
  | zero =>
    intro K out hm ho h0 h1 k hk
    obtain ⟨k, rfl⟩ : ∃ z, k = z + 1 := ⟨k - 1, by omega⟩
    rw [impl_nthRepair.l0, if_neg (by omega)]
    simp [nr]
  | succ m ih =>
    intro K out hm ho h0 h1 k hk
    obtain ⟨k, rfl⟩ : ∃ z, k = z + 1 := ⟨k - 1, by omega⟩
    have hbl := hb B[m] (List.getElem_mem _)
    obtain ⟨d1, d2, d3, d4⟩ := dv K B[m].length h0 h1 hbl
    rw [impl_nthRepair.l0, show ((m + 1 : Nat) : Int) - 1 = (m : Int) by omega, if_pos (by omega), if_pos (by omega), if_pos (by omega), rdL_lt B m (by omega), if_neg (by omega), if_pos d1, if_pos d2, if_pos (by omega), show wrap64 ((m : Int) - 1) = (m : Int) - 1 by rw [w64 (by omega) (by omega)], ih _ _ (by omega) (by simpa using ho) d3 d4 k (by omega), List.take_succ_eq_append_getElem (by omega), List.reverse_append, Int.toNat_natCast]
    rw [List.drop_eq_getElem_cons (by simp; omega), List.getElem_set_self, List.drop_set_of_lt (by omega)]
    simp [nr]
theorem nthB (l : List S86) (hl : l.length ≤ 1048576) (fs : List S50) (hf : fs.length ≤ 1048576) (hg : ∀ y ∈ fs, y.f1.length ≤ 1048576) (a : Int) (ha : a ≤ 9223372036854775807) (k : Nat) (hk : 8000100 < k) :
    ∃ R : List Int × Bool, R.1.length ≤ 1048576 ∧ spec_NthRepair.f k l fs a = some R ∧ impl_NthRepair.f k l fs a = some R := by
  unfold spec_NthRepair.f impl_NthRepair.f
  rw [countS l hl fs hf hg k hk, countI l hl fs hf hg k hk, Option.bind_some, Option.bind_some, in1, inI, Option.bind_some, Option.bind_some]
  unfold inB
  by_cases h : 0 ≤ a ∧ a ≤ wrap64 (cntR l fs - 1)
  · rw [decide_eq_true h, if_pos rfl, if_pos rfl]
    have hv : vDb l fs = true := by
      cases e : vDb l fs with
      | true => rfl
      | false =>
        have : cntR l fs = 0 := by unfold cntR; rw [e]; rfl
        rw [this, w64 (by omega) (by omega)] at h
        omega
    obtain ⟨q1, q2, q3, q4⟩ := vDb_parts l fs hv
    have hn := bls_len l fs fs.length fs.length
    have hne : ∀ b ∈ bls l fs fs.length fs.length, 0 < b.length := fun b hb => (bls_ne l fs b hb).1
    rw [blsS l hl fs hf hg k hk, if_pos hv, blsI l fs hv k (by omega), Option.bind_some, Option.bind_some]
    have hpw := bls_pw l fs hv
    generalize bls l fs fs.length fs.length = B at hn hne hpw ⊢
    have e1 : wrap64 ((B.length : Int) - 1) = (B.length : Int) - 1 := w64 (by omega) (by omega)
    have h1 := nthSl B (by omega) hne B.length a [] (Nat.le_refl _) (by simp; omega) h.1 ha k (by omega)
    have h2 := nthIl B (by omega) hne B.length a (List.replicate B.length 0) (Nat.le_refl _) (by simp) h.1 ha k (by omega)
    rw [List.take_length, List.nil_append] at h1
    rw [List.take_length, List.drop_of_length_le (by simp), List.append_nil] at h2
    have hp2 : (nr B.reverse a).Pairwise (fun x y => y < x) := by
      refine nr_pw B.reverse a (fun b hb => hne b (List.mem_reverse.1 hb)) h.1 ha ?_
      rw [List.pairwise_reverse]
      exact hpw.imp (fun hbc y hy x hx => hbc x hx y hy)
    have hs : srt (nr B.reverse a) = (nr B.reverse a).reverse := by
      refine srt_eq _ _ ?_ ?_ (fun x => by simp)
      · exact hp2.imp (fun hxy => by omega)
      · rw [List.pairwise_reverse]
        exact hp2
    refine ⟨((nr B.reverse a).reverse, true), ?_, ?_, ?_⟩
    · simp only [List.length_reverse, nr_len]
      omega
    · rw [e1, h1, hs]
    · unfold impl_nthRepair.f
      rw [if_pos (by omega), Int.toNat_natCast, if_pos (by omega), e1, h2]
      rfl
  · rw [decide_eq_false h, if_neg (by decide), if_neg (by decide)]
    exact ⟨([], false), Nat.zero_le _, rfl, rfl⟩

theorem nextB (l : List S86) (hl : l.length ≤ 1048576) (fs : List S50) (hf : fs.length ≤ 1048576) (hg : ∀ y ∈ fs, y.f1.length ≤ 1048576) (xs : List Int) (hx : xs.length ≤ 1048576) (k : Nat) (hk : 8000100 < k) :
    ∃ R : List Int × Bool, R.1.length ≤ 1048576 ∧ spec_NextRepair.f k l fs xs = some R ∧ impl_NextRepair.f k l fs xs = some R := by
  obtain ⟨⟨r, b⟩, h1, h2⟩ := rankB l hl fs hf hg xs hx k hk
  unfold spec_NextRepair.f impl_NextRepair.f
  rw [h1, h2, Option.bind_some, Option.bind_some]
  dsimp only
  cases b with
  | false => exact ⟨([], false), Nat.zero_le _, by simp, by simp⟩
  | true =>
    rw [if_pos rfl, if_pos rfl]
    have hw : wrap64 (r + 1) ≤ 9223372036854775807 := by unfold wrap64; omega
    obtain ⟨R, g0, g1, g2⟩ := nthB l hl fs hf hg (wrap64 (r + 1)) hw k hk
    exact ⟨R, g0, by rw [g1]; rfl, by rw [g2]; rfl⟩


theorem FnExactNextRepair : FnExactNextRepairPure := by
  intro x xs hx hxs
  by_cases hxn : (xs.length : Int) > 1048576
  · refine ⟨0, ?_⟩
    unfold laws_FnExactNextRepair.f
    rw [if_pos hxn]
  have hxl : xs.length ≤ 1048576 := by omega
  obtain ⟨r, h1, h2, h3, h4⟩ := szD x.f0 x.f1 hx.1.1 (fun y hy => (hx.1.2 y hy).1) hx.2.1 (fun y hy => (hx.2.2 y hy).2.1) 1048576 (by omega) (by omega)
  by_cases hr : r < 0
  · refine ⟨x.f0.length + x.f1.length + 1, ?_⟩
    unfold laws_FnExactNextRepair.f
    rw [if_neg hxn, h4 _ (by omega) (by omega), Option.bind_some, if_pos hr]
  obtain ⟨hl, hf, hg⟩ := h3 (by omega)
  have hl : x.f0.length ≤ 1048576 := by omega
  have hf : x.f1.length ≤ 1048576 := by omega
  have hg : ∀ y ∈ x.f1, y.f1.length ≤ 1048576 := fun y hy => by have := hg y hy; omega
  have hml : (x.f0.map cvR).length = x.f0.length := by simp
  have hmf : (x.f1.map cvF).length = x.f1.length := by simp
  have hmg := cvFg x.f1 hg
  refine ⟨9000001, ?_⟩
  generalize hk : (9000001 : Nat) = k
  unfold laws_FnExactNextRepair.f
  rw [if_neg hxn, h4 _ (by omega) (by omega), Option.bind_some, if_neg hr, toD _ _ hl hf hg _ (by omega), toI _ hxl _ (by omega)]
  simp only [Option.bind_some]
  obtain ⟨m, ys, zs, hm, hm0, hmb⟩ := markD (x.f0.map cvR) (x.f1.map cvF) (by omega) (by omega) hmg k (by omega)
  obtain ⟨⟨B, b⟩, hn, hS, hI⟩ := nextB (x.f0.map cvR) (by omega) (x.f1.map cvF) (by omega) hmg xs hxl k (by omega)
  rw [hS, hI]
  simp only [Option.bind_some]
  dsimp only at hn
  rw [eqI _ hn _ (by omega)]
  simp only [Option.bind_some, if_true, beq_self_eq_true]
  rw [eqD _ _ (by omega) (by omega) hmg _ (by omega)]
  simp only [Option.bind_some, if_true]
  rw [eqI _ hxl _ (by omega)]
  simp only [Option.bind_some, if_true]
  rw [hm]
  simp only [Option.bind_some]
  rw [markI _ hxl m hm0 hmb _ (by omega)]
  simp only [Option.bind_some]
  rw [if_neg (by omega), markI _ hn 1 (by omega) (by omega) _ (by omega)]
  simp only [Option.bind_some]
  rw [heldI _ 1 (by omega) (by omega) hn _ (by omega)]
  simp only [Option.bind_some]
  rw [if_neg (by omega), if_pos trivial]

end Go.Proofs.Ytehlhbidmanbmaa.Pure
