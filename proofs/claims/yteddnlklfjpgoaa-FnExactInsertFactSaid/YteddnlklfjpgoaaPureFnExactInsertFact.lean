/- The law FnExactInsertFact answers true for every database and fact that the row admits: both texts answer alike, the arguments are left as they were, and the result is memory of its own. -/
import Derived.Test.YteddnlklfjpgoaaGFnExactInsertFact
import Derived.Test.YteddnlklfjpgoaaBase
namespace Go.Proofs.Yteddnlklfjpgoaa.Pure
open Go.RowKit Go.Proofs.Yteddnlklfjpgoaa.PFnExactInsertFact Go.Proofs.YteddnlklfjpgoaaW.PrintWords Go.Proofs.YteddnlklfjpgoaaW.PrintLast Go.Proofs.YteddnlklfjpgoaaW.PrintMore Go.Proofs.Yteddnlklfjpgoaa.Base
set_option linter.unusedVariables false
set_option linter.unusedSimpArgs false
def cvR (x : S78) : S74 := ⟨x.f0, x.f1, x.f2⟩
theorem szR (n a b v : _) (hn : n.size ≤ maxLen) (hv : 0 ≤ v) (hv1 : v ≤ 1048576) : ∃ r, laws_szRelation.f n a b v = some r ∧ r ≤ v ∧ -1 ≤ r ∧ (0 ≤ r → (n.size : Int) ≤ v) := by
 unfold maxLen at hn
 unfold laws_szRelation.f
 rw [w64 (by omega) (by omega)]
 by_cases h : v - (n.size : Int) < 0
 ·exact ⟨-1, if_pos h, by omega, by omega, fun h => absurd h (by decide)⟩
 ·exact ⟨_, if_neg h, by omega, by omega, fun _ => by omega⟩
theorem szRSl (l : List S78) (hl : l.length ≤ maxLen) (hg : ∀ y ∈ l, y.f0.size ≤ maxLen) (d : Nat) : ∀ (i v : Int), 0 ≤ i → (l.length : Int) - i = d → 0 ≤ v → v ≤ 1048576 → ∃ r, r ≤ v ∧ -1 ≤ r ∧ ∀ k, d < k → laws_szRelationS.l0 k l v i = some r := by
 unfold maxLen at hl
 induction d with
 | zero =>
  intro i v h0 hd hv _
  refine ⟨v, by omega, by omega, fun k hk => ?_⟩
  obtain ⟨k, rfl, hk⟩ := fuel hk
  rw [laws_szRelationS.l0, if_neg (by omega)]
 | succ d ih =>
  intro i v h0 hd hv hv1
  obtain ⟨r, hr, h1, h2, _⟩ := szR (rd_T78 l i).f0 (rd_T78 l i).f1 (rd_T78 l i).f2 v (hg _ (getD_mem l _ _ (by omega))) hv hv1
  by_cases hneg : r < 0
  ·refine ⟨-1, by omega, by omega, fun k hk => ?_⟩
   obtain ⟨k, rfl, hk⟩ := fuel hk
   rw [laws_szRelationS.l0, if_pos (by omega), if_pos h0, hr]
   simp only [Option.bind_some]
   rw [if_pos hneg]
  ·obtain ⟨r', h3, h4, h5⟩ := ih (i + 1) r (by omega) (by omega) (by omega) (by omega)
   refine ⟨r', by omega, h4, fun k hk => ?_⟩
   obtain ⟨k, rfl, hk⟩ := fuel hk
   rw [laws_szRelationS.l0, if_pos (by omega), if_pos h0, hr]
   simp only [Option.bind_some]
   rw [if_neg hneg, w64 (by omega) (by omega)]
   exact h5 k (by omega)
theorem szRS (l : List S78) (hl : l.length ≤ maxLen) (hg : ∀ y ∈ l, y.f0.size ≤ maxLen) (v : Int) (hv : 0 ≤ v) (hv1 : v ≤ 1048576) : ∃ r, r ≤ v ∧ -1 ≤ r ∧ (0 ≤ r → (l.length : Int) ≤ v) ∧ ∀ k, l.length < k → laws_szRelationS.f k l v = some r := by
 have hl' := hl
 unfold maxLen at hl'
 unfold laws_szRelationS.f
 rw [w64 (by omega) (by omega)]
 by_cases h : v - (l.length : Int) < 0
 ·exact ⟨-1, by omega, by omega, fun h => absurd h (by decide), fun k _ => if_pos h⟩
 ·obtain ⟨r, h1, h2, h3⟩ := szRSl l hl hg l.length 0 (v - l.length) (by omega) (by omega) (by omega) (by omega)
  exact ⟨r, by omega, h2, fun _ => by omega, fun k hk => by rw [if_neg h]; exact h3 k hk⟩
theorem toRSl (l : List S78) (hl : l.length ≤ 1048576) (d : Nat) : ∀ (i : Nat) (xs : List S74), (l.length : Int) - i = d → xs.length = l.length → xs.take i = (l.take i).map cvR → ∀ k, d < k → laws_toRelationS.l0 k l xs i = some (l.map cvR) := by
 induction d with
 | zero =>
  intro i xs hd hx ht k hk
  obtain ⟨k, rfl, hk⟩ := fuel hk
  rw [laws_toRelationS.l0, if_neg (by omega)]
  rw [List.take_of_length_le (by omega), List.take_of_length_le (by omega)] at ht
  rw [ht]
 | succ d ih =>
  intro i xs hd hx ht k hk
  obtain ⟨k, rfl, hk⟩ := fuel hk
  rw [laws_toRelationS.l0, if_pos (by omega), if_pos (by omega), laws_toRelation.f]
  simp only [Option.bind_some]
  rw [if_pos (by omega), show wrap64 ((i : Int) + 1) = ((i + 1 : Nat) : Int) by rw [w64 (by omega) (by omega)]; omega]
  refine ih (i + 1) _ (by omega) (by simpa using hx) ?_ k (by omega)
  rw [Int.toNat_natCast, take_set_succ _ _ _ (by omega), take_map_succ cvR z78 l i (by omega), ht]
  rfl
theorem toRS (l : List S78) (hl : l.length ≤ 1048576) (k : Nat) (hk : l.length < k) : laws_toRelationS.f k l = some (l.map cvR) := by
 unfold laws_toRelationS.f
 rw [if_pos (by omega), Int.toNat_natCast, if_pos (by omega)]
 exact toRSl l hl l.length 0 _ (by omega) (by simp) (by simp) k hk
theorem eqR (a : S74) : laws_eqRelation.f a.f0 a.f1 a.f2 a.f0 a.f1 a.f2 = some true := by
 unfold laws_eqRelation.f
 rw [if_pos rfl, if_pos rfl, if_pos rfl]
theorem eqRSl (l : List S74) (hl : l.length ≤ 1048576) (d : Nat) : ∀ (i : Int), 0 ≤ i → (l.length : Int) - i = d → ∀ k, d < k → laws_eqRelationS.l0 k l l i = some true := by
 induction d with
 | zero =>
  intro i h0 hd k hk
  obtain ⟨k, rfl, hk⟩ := fuel hk
  rw [laws_eqRelationS.l0, if_neg (by omega)]
 | succ d ih =>
  intro i h0 hd k hk
  obtain ⟨k, rfl, hk⟩ := fuel hk
  rw [laws_eqRelationS.l0, if_pos (by omega), if_pos h0, if_pos (by omega), eqR]
  simp only [Option.bind_some, if_true]
  rw [w64 (by omega) (by omega)]
  exact ih (i + 1) (by omega) (by omega) k (by omega)
theorem eqRS (l : List S74) (hl : l.length ≤ 1048576) (k : Nat) (hk : l.length < k) : laws_eqRelationS.f k l l = some true := by
 unfold laws_eqRelationS.f
 rw [if_pos rfl]
 exact eqRSl l hl l.length 0 (by omega) (by omega) k hk
def cvF (x : S42) : S45 := ⟨x.f0, x.f1⟩
theorem szI (l : List Int) (v : Int) (hl : l.length ≤ maxLen) (hv : 0 ≤ v) (hv1 : v ≤ 1048576) : ∃ r, laws_szIntS.f l v = some r ∧ r ≤ v ∧ -1 ≤ r ∧ (0 ≤ r → (l.length : Int) ≤ v) := by
 unfold maxLen at hl
 unfold laws_szIntS.f
 rw [w64 (by omega) (by omega)]
 by_cases h : v - (l.length : Int) < 0
 ·exact ⟨-1, if_pos h, by omega, by omega, fun h => absurd h (by decide)⟩
 ·exact ⟨_, if_neg h, by omega, by omega, fun _ => by omega⟩
theorem szF (a : Int) (l : List Int) (v : Int) (hl : l.length ≤ maxLen) (hv : 0 ≤ v) (hv1 : v ≤ 1048576) : ∃ r, laws_szFact.f a l v = some r ∧ r ≤ v ∧ -1 ≤ r ∧ (0 ≤ r → (l.length : Int) ≤ v) := by
 obtain ⟨r, h1, h2, h3, h4⟩ := szI l v hl hv hv1
 unfold laws_szFact.f
 rw [h1]
 simp only [Option.bind_some]
 by_cases h : r < 0
 ·exact ⟨-1, if_pos h, by omega, by omega, fun h => absurd h (by decide)⟩
 ·exact ⟨r, if_neg h, h2, h3, h4⟩
theorem toIl (l : List Int) (hl : l.length ≤ 1048576) (d : Nat) : ∀ (i : Nat) (xs : List Int), (l.length : Int) - i = d → xs.length = l.length → xs.take i = l.take i → ∀ k, d < k → laws_toIntS.l0 k l xs i = some l := by
 induction d with
 | zero =>
  intro i xs hd hx ht k hk
  obtain ⟨k, rfl, hk⟩ := fuel hk
  rw [laws_toIntS.l0, if_neg (by omega)]
  rw [List.take_of_length_le (by omega), List.take_of_length_le (by omega)] at ht
  rw [ht]
 | succ d ih =>
  intro i xs hd hx ht k hk
  obtain ⟨k, rfl, hk⟩ := fuel hk
  rw [laws_toIntS.l0, if_pos (by omega), if_pos (by omega), if_pos (by omega), show wrap64 ((i : Int) + 1) = ((i + 1 : Nat) : Int) by rw [w64 (by omega) (by omega)]; omega]
  refine ih (i + 1) _ (by omega) (by simpa using hx) ?_ k (by omega)
  rw [Int.toNat_natCast, take_set_succ _ _ _ (by omega), ht, List.take_succ_eq_append_getElem (by omega)]
  congr 2
  unfold rd
  rw [Int.toNat_natCast, getD_lt l _ i (by omega)]
theorem toI (l : List Int) (hl : l.length ≤ 1048576) (k : Nat) (hk : l.length < k) : laws_toIntS.f k l = some l := by
 unfold laws_toIntS.f
 rw [if_pos (by omega), Int.toNat_natCast, if_pos (by omega)]
 exact toIl l hl l.length 0 _ (by omega) (by simp) (by simp) k hk
theorem eqIl (l : List Int) (hl : l.length ≤ 1048576) (d : Nat) : ∀ (i : Int), 0 ≤ i → (l.length : Int) - i = d → ∀ k, d < k → laws_eqIntS.l0 k l l i = some true := by
 induction d with
 | zero =>
  intro i h0 hd k hk
  obtain ⟨k, rfl, hk⟩ := fuel hk
  rw [laws_eqIntS.l0, if_neg (by omega)]
 | succ d ih =>
  intro i h0 hd k hk
  obtain ⟨k, rfl, hk⟩ := fuel hk
  rw [laws_eqIntS.l0, if_pos (by omega), if_pos h0, if_pos (by omega), if_pos rfl, w64 (by omega) (by omega)]
  exact ih (i + 1) (by omega) (by omega) k (by omega)
theorem eqI (l : List Int) (hl : l.length ≤ 1048576) (k : Nat) (hk : l.length < k) : laws_eqIntS.f k l l = some true := by
 unfold laws_eqIntS.f
 rw [if_pos rfl]
 exact eqIl l hl l.length 0 (by omega) (by omega) k hk
theorem toF (a : Int) (l : List Int) (hl : l.length ≤ 1048576) (k : Nat) (hk : l.length < k) : laws_toFact.f k a l = some (a, l) := by
 unfold laws_toFact.f
 rw [toI l hl k hk]
 rfl
theorem eqF (a : Int) (l : List Int) (hl : l.length ≤ 1048576) (k : Nat) (hk : l.length < k) : laws_eqFact.f k a l a l = some true := by
 unfold laws_eqFact.f
 rw [if_pos rfl, eqI l hl k hk]
 rfl
theorem cmpSl (a b : List Int) (ha : a.length ≤ 1048576) (hb : b.length ≤ 1048576) (d : Nat) : ∀ (i : Nat), i + d = a.length → ∀ k, 2 * d + 1 < k → spec_l3Ints.l0 k a b i = some (cmpI (a.drop i) (b.drop i)) ∨ b.length < i := by
 induction d with
 | zero =>
  intro i hd k hk
  by_cases hbi : b.length < i
  ·exact .inr hbi
  left
  obtain ⟨k, rfl⟩ : ∃ z, k = z + 2 := ⟨k - 2, by omega⟩
  rw [spec_l3Ints.l0, if_neg (by omega), spec_l3Ints.j1, if_neg (by decide), cmpI_end (.inl (List.drop_of_length_le (by omega))), List.length_drop, List.length_drop]
  by_cases h1 : (a.length : Int) < (b.length : Int)
  ·rw [if_pos h1, if_pos (show a.length - i < b.length - i by omega)]
  ·rw [if_neg h1, if_neg (show ¬ (a.length : Int) > (b.length : Int) by omega), if_neg (show ¬ a.length - i < b.length - i by omega), if_neg (show ¬ a.length - i > b.length - i by omega)]
 | succ d ih =>
  intro i hd k hk
  by_cases hbi : b.length < i
  ·exact .inr hbi
  left
  obtain ⟨k, rfl⟩ : ∃ z, k = z + 2 := ⟨k - 2, by omega⟩
  rw [spec_l3Ints.l0, if_pos (by omega)]
  by_cases hlt : i < b.length
  ·have e1 : wrap64 ((i : Int) + 1) = ((i + 1 : Nat) : Int) := by rw [w64 (by omega) (by omega)]; omega
   have e2 : rd a (i : Int) = a[i] := by unfold rd; rw [Int.toNat_natCast, getD_lt a _ i (by omega)]
   have e3 : rd b (i : Int) = b[i] := by unfold rd; rw [Int.toNat_natCast, getD_lt b _ i (by omega)]
   rw [decide_eq_true (by omega), spec_l3Ints.j1, if_pos rfl, if_pos (by omega), if_pos (by omega), if_pos (by omega), e1, e2, e3]
   rw [List.drop_eq_getElem_cons (i := i) (l := a) (by omega), List.drop_eq_getElem_cons (i := i) (l := b) (by omega), cmpI]
   by_cases h1 : a[i] < b[i]
   ·rw [if_pos h1, if_pos h1]
   ·rw [if_neg h1, if_neg h1]
    by_cases h2 : a[i] > b[i]
    ·rw [if_pos h2, if_pos h2]
    ·rw [if_neg h2, if_neg h2]
     rcases ih (i + 1) (by omega) k (by omega) with h | h
     ·exact h
     ·omega
  ·rw [decide_eq_false (by omega), spec_l3Ints.j1, if_neg (by decide), cmpI_end (.inr (List.drop_of_length_le (by omega))), List.length_drop, List.length_drop]
   rw [if_neg (show ¬ (a.length : Int) < (b.length : Int) by omega), if_pos (show (a.length : Int) > (b.length : Int) by omega), if_neg (show ¬ a.length - i < b.length - i by omega), if_pos (show a.length - i > b.length - i by omega)]
theorem cmpS (a b : List Int) (ha : a.length ≤ 1048576) (hb : b.length ≤ 1048576) (k : Nat) (hk : 2 * a.length + 1 < k) : spec_l3Ints.f k a b = some (cmpI a b) := by
 rcases cmpSl a b ha hb a.length 0 (by omega) k hk with h | h
 ·exact h
 ·omega
theorem cmpFS (x : Int) (a : List Int) (y : Int) (b : List Int) (ha : a.length ≤ 1048576) (hb : b.length ≤ 1048576) (k : Nat) (hk : 2 * a.length + 1 < k) : spec_CompareFacts.f k x a y b = some (cmpF x a y b) := by
 unfold spec_CompareFacts.f cmpF
 by_cases h1 : x < y
 ·rw [if_pos h1, if_pos h1]
 ·rw [if_neg h1, if_neg h1]
  by_cases h2 : x > y
  ·rw [if_pos h2, if_pos h2]
  ·rw [if_neg h2, if_neg h2, cmpS a b ha hb k hk]
   rfl
theorem in1 (x a b : Int) : spec_l1In.f x a b = some (decide (a ≤ x ∧ x ≤ b)) := by
 unfold spec_l1In.f
 by_cases h : a ≤ x
 ·rw [if_pos h]; simp [h]
 ·rw [if_neg h]; simp [h]
theorem vFSl (a : Int) (vs : List Int) (hs : vs.length ≤ 1048576) (d : Nat) : ∀ (i : Nat), i + d = vs.length → ∀ k, d < k → spec_IsValidFact.l0 k i a vs = some (!(vs.drop i).any noVal) := by
 induction d with
 | zero =>
  intro i hd k hk
  obtain ⟨k, rfl, hk⟩ := fuel hk
  rw [spec_IsValidFact.l0, if_neg (by omega), List.drop_of_length_le (by omega)]
  rfl
 | succ d ih =>
  intro i hd k hk
  obtain ⟨k, rfl, hk⟩ := fuel hk
  rw [spec_IsValidFact.l0, if_pos (by omega), if_pos (by omega), in1, Option.bind_some, List.drop_eq_getElem_cons (i := i) (l := vs) (by omega), List.any_cons]
  rw [show wrap64 ((i : Int) + 1) = ((i + 1 : Nat) : Int) by rw [w64 (by omega) (by omega)]; omega, show rd vs (i : Int) = vs[i] by unfold rd; rw [Int.toNat_natCast, getD_lt vs _ i (by omega)]]
  by_cases h : 0 ≤ vs[i] ∧ vs[i] ≤ 9
  ·rw [if_pos (by simpa using h), ih (i + 1) (by omega) k (by omega)]
   have : noVal vs[i] = false := by simp [noVal, h]
   rw [this, Bool.false_or]
  ·rw [if_neg (by simpa using h)]
   have : noVal vs[i] = true := by
    unfold noVal
    by_cases h1 : 0 ≤ vs[i]
    ·have h2 : ¬ vs[i] ≤ 9 := fun h2 => h ⟨h1, h2⟩
     simp [h2]
    ·simp [h1]
   rw [this, Bool.true_or]
   rfl
theorem vFS (l : List S74) (hl : l.length ≤ 1048576) (a : Int) (vs : List Int) (hs : vs.length ≤ 1048576) (k : Nat) (hk : vs.length + 1 < k) : spec_IsValidFact.f k l a vs = some (vFact l a vs) := by
 obtain ⟨k, rfl⟩ : ∃ z, k = z + 1 := ⟨k - 1, by omega⟩
 unfold spec_IsValidFact.f spec_AreValidRelations.f vFact fits
 rw [Option.bind_some, in1, Option.bind_some, w64 (by omega) (by omega)]
 by_cases h0 : vRels l = true
 ·rw [if_pos h0]
  by_cases h1 : 0 ≤ a ∧ a < (l.length : Int)
  ·rw [if_pos (by simpa using (by omega : 0 ≤ a ∧ a ≤ (l.length : Int) - 1)), if_pos h1.1, if_pos h1.2, spec_IsValidFact.j0]
   by_cases h2 : (vs.length : Int) = (rd_T74 l a).f1
   ·rw [if_neg (by simpa using h2), show (0 : Int) = ((0 : Nat) : Int) from rfl, vFSl a vs hs vs.length 0 (by omega) k (by omega), h0, decide_eq_true (by exact ⟨h1.1, h1.2, h2⟩)]
    simp
   ·rw [if_pos (by simpa using h2), decide_eq_false (by intro h; exact h2 h.2.2)]
    simp
  ·rw [if_neg (by simpa using (by omega : 0 ≤ a → ¬ a ≤ (l.length : Int) - 1)), spec_IsValidFact.j0, if_pos rfl, decide_eq_false (by intro h; exact h1 ⟨h.1, h.2.1⟩)]
   simp
 ·rw [if_neg h0, spec_IsValidFact.j0, if_pos rfl]
  simp [h0]
theorem szFSl (l : List S42) (hl : l.length ≤ maxLen) (hg : ∀ y ∈ l, y.f1.length ≤ maxLen) (d : Nat) : ∀ (i : Nat) (v : Int), i + d = l.length → 0 ≤ v → v ≤ 1048576 → ∃ r, r ≤ v ∧ -1 ≤ r ∧ (0 ≤ r → ∀ j, i ≤ j → j < l.length → ((l.getD j z42).f1.length : Int) ≤ v) ∧ ∀ k, d < k → laws_szFactS.l0 k l v i = some r := by
 unfold maxLen at hl
 induction d with
 | zero =>
  intro i v hd hv _
  refine ⟨v, by omega, by omega, fun _ j h1 h2 => by omega, fun k hk => ?_⟩
  obtain ⟨k, rfl, hk⟩ := fuel hk
  rw [laws_szFactS.l0, if_neg (by omega)]
 | succ d ih =>
  intro i v hd hv hv1
  obtain ⟨r, hr, h1, h2, h3⟩ := szF (rd_T42 l i).f0 (rd_T42 l i).f1 v (hg _ (getD_mem l _ _ (by omega))) hv hv1
  by_cases hneg : r < 0
  ·refine ⟨-1, by omega, by omega, fun h => absurd h (by decide), fun k hk => ?_⟩
   obtain ⟨k, rfl, hk⟩ := fuel hk
   rw [laws_szFactS.l0, if_pos (by omega), if_pos (by omega), hr, Option.bind_some, if_pos hneg]
  ·obtain ⟨r', g1, g2, g3, g4⟩ := ih (i + 1) r (by omega) (by omega) (by omega)
   refine ⟨r', by omega, g2, fun h j j1 j2 => ?_, fun k hk => ?_⟩
   ·by_cases hj : j = i
    ·subst hj
     have := h3 (by omega)
     unfold rd_T42 at this
     rw [Int.toNat_natCast] at this
     exact this
    ·exact Int.le_trans (g3 h j (by omega) j2) h1
   obtain ⟨k, rfl, hk⟩ := fuel hk
   rw [laws_szFactS.l0, if_pos (by omega), if_pos (by omega), hr, Option.bind_some, if_neg hneg, show wrap64 ((i : Int) + 1) = ((i + 1 : Nat) : Int) by rw [w64 (by omega) (by omega)]; omega]
   exact g4 k (by omega)
theorem szFS (l : List S42) (hl : l.length ≤ maxLen) (hg : ∀ y ∈ l, y.f1.length ≤ maxLen) (v : Int) (hv : 0 ≤ v) (hv1 : v ≤ 1048576) : ∃ r, r ≤ v ∧ -1 ≤ r ∧ (0 ≤ r → (l.length : Int) ≤ v ∧ ∀ y ∈ l, (y.f1.length : Int) ≤ v) ∧ ∀ k, l.length < k → laws_szFactS.f k l v = some r := by
 have hl' := hl
 unfold maxLen at hl'
 unfold laws_szFactS.f
 rw [w64 (by omega) (by omega)]
 by_cases h : v - (l.length : Int) < 0
 ·exact ⟨-1, by omega, by omega, fun h => absurd h (by decide), fun k _ => if_pos h⟩
 ·obtain ⟨r, h1, h2, h3, h4⟩ := szFSl l hl hg l.length 0 (v - l.length) (by omega) (by omega) (by omega)
  refine ⟨r, by omega, h2, fun h => ⟨by omega, fun y hy => ?_⟩, fun k hk => by rw [if_neg ‹_›]; exact h4 k hk⟩
  obtain ⟨j, hj, rfl⟩ := List.getElem_of_mem hy
  have := h3 h j (by omega) hj
  rw [getD_lt l _ j hj] at this
  omega
theorem szD (l : List S78) (fs : List S42) (hl : l.length ≤ maxLen) (hg : ∀ y ∈ l, y.f0.size ≤ maxLen) (hf : fs.length ≤ maxLen) (hh : ∀ y ∈ fs, y.f1.length ≤ maxLen) (v : Int) (hv : 0 ≤ v) (hv1 : v ≤ 1048576) :
  ∃ r, r ≤ v ∧ -1 ≤ r ∧ (0 ≤ r → (l.length : Int) ≤ v ∧ (fs.length : Int) ≤ v ∧ ∀ y ∈ fs, (y.f1.length : Int) ≤ v) ∧ ∀ k, l.length < k → fs.length < k → laws_szDatabase.f k l fs v = some r := by
 obtain ⟨r, h1, h2, h3, h4⟩ := szRS l hl hg v hv hv1
 by_cases hr : r < 0
 ·exact ⟨-1, by omega, by omega, fun h => absurd h (by decide), fun k hk _ => by unfold laws_szDatabase.f; rw [h4 k hk, Option.bind_some, if_pos hr]⟩
 obtain ⟨r', g1, g2, g3, g4⟩ := szFS fs hf hh r (by omega) (by omega)
 by_cases hr' : r' < 0
 ·exact ⟨-1, by omega, by omega, fun h => absurd h (by decide), fun k hk hk' => by unfold laws_szDatabase.f; rw [h4 k hk, Option.bind_some, if_neg hr, g4 k hk', Option.bind_some, if_pos hr']⟩
 ·refine ⟨r', by omega, by omega, fun _ => ?_, fun k hk hk' => by unfold laws_szDatabase.f; rw [h4 k hk, Option.bind_some, if_neg hr, g4 k hk', Option.bind_some, if_neg hr']⟩
  obtain ⟨e1, e2⟩ := g3 (by omega)
  exact ⟨h3 (by omega), by omega, fun y hy => Int.le_trans (e2 y hy) h1⟩
theorem toFSl (l : List S42) (hl : l.length ≤ 1048576) (hg : ∀ y ∈ l, y.f1.length ≤ 1048576) (d : Nat) : ∀ (i : Nat) (xs : List S45), i + d = l.length → xs.length = l.length → xs.take i = (l.take i).map cvF → ∀ k, d + 1048577 < k → laws_toFactS.l0 k l xs i = some (l.map cvF) := by
 induction d with
 | zero =>
  intro i xs hd hx ht k hk
  obtain ⟨k, rfl, hk⟩ := fuel hk
  rw [laws_toFactS.l0, if_neg (by omega)]
  rw [List.take_of_length_le (by omega), List.take_of_length_le (by omega)] at ht
  rw [ht]
 | succ d ih =>
  intro i xs hd hx ht k hk
  obtain ⟨k, rfl, hk⟩ := fuel hk
  have hy := hg _ (getD_mem l z42 i (by omega))
  rw [laws_toFactS.l0, if_pos (by omega), if_pos (by omega)]
  unfold rd_T42
  rw [Int.toNat_natCast, toF _ _ hy k (by omega), Option.bind_some, if_pos (by omega), show wrap64 ((i : Int) + 1) = ((i + 1 : Nat) : Int) by rw [w64 (by omega) (by omega)]; omega]
  refine ih (i + 1) _ (by omega) (by simpa using hx) ?_ k (by omega)
  rw [take_set_succ _ _ _ (by omega), take_map_succ cvF z42 l i (by omega), ht]
  rfl
theorem toFS (l : List S42) (hl : l.length ≤ 1048576) (hg : ∀ y ∈ l, y.f1.length ≤ 1048576) (k : Nat) (hk : l.length + 1048577 < k) : laws_toFactS.f k l = some (l.map cvF) := by
 unfold laws_toFactS.f
 rw [if_pos (by omega), Int.toNat_natCast, if_pos (by omega)]
 exact toFSl l hl hg l.length 0 _ (by omega) (by simp) (by simp) k hk
theorem toD (l : List S78) (fs : List S42) (hl : l.length ≤ 1048576) (hf : fs.length ≤ 1048576) (hg : ∀ y ∈ fs, y.f1.length ≤ 1048576) (k : Nat) (hk : 2097154 < k) : laws_toDatabase.f k l fs = some (l.map cvR, fs.map cvF) := by
 unfold laws_toDatabase.f
 rw [toRS l hl k (by omega), Option.bind_some, toFS fs hf hg k (by omega), Option.bind_some]
theorem eqFSl (l : List S45) (hl : l.length ≤ 1048576) (hg : ∀ y ∈ l, y.f1.length ≤ 1048576) (d : Nat) : ∀ (i : Nat), i + d = l.length → ∀ k, d + 1048577 < k → laws_eqFactS.l0 k l l i = some true := by
 induction d with
 | zero =>
  intro i hd k hk
  obtain ⟨k, rfl, hk⟩ := fuel hk
  rw [laws_eqFactS.l0, if_neg (by omega)]
 | succ d ih =>
  intro i hd k hk
  obtain ⟨k, rfl, hk⟩ := fuel hk
  have hy := hg _ (getD_mem l z45 i (by omega))
  rw [laws_eqFactS.l0, if_pos (by omega), if_pos (by omega), if_pos (by omega)]
  unfold rd_T45
  rw [Int.toNat_natCast, eqF _ _ hy k (by omega), Option.bind_some, if_pos rfl, show wrap64 ((i : Int) + 1) = ((i + 1 : Nat) : Int) by rw [w64 (by omega) (by omega)]; omega]
  exact ih (i + 1) (by omega) k (by omega)
theorem eqFS (l : List S45) (hl : l.length ≤ 1048576) (hg : ∀ y ∈ l, y.f1.length ≤ 1048576) (k : Nat) (hk : l.length + 1048577 < k) : laws_eqFactS.f k l l = some true := by
 unfold laws_eqFactS.f
 rw [if_pos rfl]
 exact eqFSl l hl hg l.length 0 (by omega) k hk
theorem eqD (l : List S74) (fs : List S45) (hl : l.length ≤ 1048576) (hf : fs.length ≤ 1048576) (hg : ∀ y ∈ fs, y.f1.length ≤ 1048576) (k : Nat) (hk : 2097154 < k) : laws_eqDatabase.f k l fs l fs = some true := by
 unfold laws_eqDatabase.f
 rw [eqRS l hl k (by omega), Option.bind_some, if_pos rfl, eqFS fs hf hg k (by omega), Option.bind_some, if_pos rfl]
theorem cvFg (fs : List S42) (hg : ∀ y ∈ fs, y.f1.length ≤ 1048576) : ∀ y ∈ fs.map cvF, y.f1.length ≤ 1048576 := by
 intro y hy
 obtain ⟨x, hx, rfl⟩ := List.mem_map.1 hy
 exact hg x hx
theorem vDSl (l : List S74) (hl : l.length ≤ 1048576) (fs : List S45) (hf : fs.length ≤ 1048576) (hg : ∀ y ∈ fs, y.f1.length ≤ 1048576) (d : Nat) : ∀ (i : Nat), i + d = fs.length → ∀ k, d + 4000000 < k → spec_IsValidDatabase.l0 k i l fs = some (vRels l && decide (fs.length ≤ 14) && okFrom l fs d i) := by
 induction d with
 | zero =>
  intro i hd k hk
  obtain ⟨k, rfl, hk⟩ := fuel hk
  rw [spec_IsValidDatabase.l0, if_neg (by omega)]
  unfold spec_AreValidRelations.f
  rw [Option.bind_some]
  by_cases h : vRels l = true
  ·rw [if_pos h, h, okFrom]
   simp only [Bool.true_and, Bool.and_true]
   congr 2
   exact propext (by omega)
  ·rw [if_neg h]; simp [h]
 | succ d ih =>
  intro i hd k hk
  obtain ⟨k, rfl, hk⟩ := fuel hk
  have hy := hg _ (getD_mem fs z45 i (by omega))
  rw [spec_IsValidDatabase.l0, if_pos (by omega), if_pos (by omega)]
  unfold rd_T45
  rw [Int.toNat_natCast, vFS l hl _ _ hy k (by omega), Option.bind_some, okFrom]
  unfold vFact
  by_cases h0 : vRels l = true
  ·by_cases h1 : fits l (fs.getD i z45).f0 (fs.getD i z45).f1 = true
   ·rw [h0, h1, Bool.true_and, if_pos rfl]
    by_cases hi : i = 0
    ·rw [if_neg (by omega), show wrap64 ((i : Int) + 1) = ((i + 1 : Nat) : Int) by rw [w64 (by omega) (by omega)]; omega, ih (i + 1) (by omega) k (by omega), h0, decide_eq_true hi]
     simp
    ·have hy' := hg _ (getD_mem fs z45 (i - 1) (by omega))
     have ew : wrap64 ((i : Int) - 1) = ((i - 1 : Nat) : Int) := by rw [w64 (by omega) (by omega)]; omega
     rw [if_pos (by omega), ew, if_pos (by omega), if_pos (by omega), Int.toNat_natCast, cmpFS _ _ _ _ hy' hy k (by omega), Option.bind_some, decide_eq_false hi]
     by_cases hc : cmpF (fs.getD (i - 1) z45).f0 (fs.getD (i - 1) z45).f1 (fs.getD i z45).f0 (fs.getD i z45).f1 < 0
     ·rw [if_neg (by omega), show wrap64 ((i : Int) + 1) = ((i + 1 : Nat) : Int) by rw [w64 (by omega) (by omega)]; omega, ih (i + 1) (by omega) k (by omega), h0, decide_eq_true hc]
      simp
     ·rw [if_pos (by omega), decide_eq_false hc]
      simp
   ·rw [Bool.eq_false_iff.2 h1, Bool.and_false, if_neg (by decide)]
    simp
  ·rw [if_neg (by simp [h0])]
   simp [h0]
theorem vDS (l : List S74) (hl : l.length ≤ 1048576) (fs : List S45) (hf : fs.length ≤ 1048576) (hg : ∀ y ∈ fs, y.f1.length ≤ 1048576) (k : Nat) (hk : 6000000 < k) : spec_IsValidDatabase.f k l fs = some (vDb l fs) := by
 unfold spec_IsValidDatabase.f vDb
 exact vDSl l hl fs hf hg fs.length 0 (by omega) k (by omega)
theorem okFrom_at (l : List S74) (fs : List S45) : ∀ (d i : Nat), okFrom l fs d i = true → ∀ j, i ≤ j → j < i + d → fits l (fs.getD j z45).f0 (fs.getD j z45).f1 = true ∧ (j = 0 ∨ cmpF (fs.getD (j - 1) z45).f0 (fs.getD (j - 1) z45).f1 (fs.getD j z45).f0 (fs.getD j z45).f1 < 0)
 | 0, i, _, j, h1, h2 => by omega
 | d + 1, i, h, j, h1, h2 => by
  rw [okFrom, Bool.and_eq_true, Bool.and_eq_true, Bool.or_eq_true, decide_eq_true_iff, decide_eq_true_iff] at h
  by_cases hj : j = i
  ·subst hj
   exact h.1
  ·exact okFrom_at l fs d (i + 1) h.2 j (by omega) (by omega)
theorem vDb_parts (l : List S74) (fs : List S45) (h : vDb l fs = true) : vRels l = true ∧ fs.length ≤ 14 ∧ (∀ j, j < fs.length → fits l (fs.getD j z45).f0 (fs.getD j z45).f1 = true) ∧ ∀ j, 0 < j → j < fs.length → cmpF (fs.getD (j - 1) z45).f0 (fs.getD (j - 1) z45).f1 (fs.getD j z45).f0 (fs.getD j z45).f1 < 0 := by
 unfold vDb at h
 rw [Bool.and_eq_true, Bool.and_eq_true, decide_eq_true_iff] at h
 refine ⟨h.1.1, h.1.2, fun j hj => (okFrom_at l fs _ 0 h.2 j (by omega) (by omega)).1, fun j h0 hj => ?_⟩
 rcases (okFrom_at l fs _ 0 h.2 j (by omega) (by omega)).2 with e | e
 ·omega
 ·exact e
theorem fidxSl (l : List S74) (fs : List S45) (hf : fs.length ≤ 1048576) (hg : ∀ y ∈ fs, y.f1.length ≤ 1048576) (a : Int) (vs : List Int) (hv : vs.length ≤ 1048576) (d : Nat) : ∀ (i : Nat), i + d = fs.length → ∀ k, d + 2097160 < k → spec_FactIndex.l0 k i l fs a vs = some (idxW (factIs a vs) (fs.drop i) i) := by
 induction d with
 | zero =>
  intro i hd k hk
  obtain ⟨k, rfl, hk⟩ := fuel hk
  rw [spec_FactIndex.l0, if_neg (by omega), List.drop_of_length_le (by omega)]
  rfl
 | succ d ih =>
  intro i hd k hk
  obtain ⟨k, rfl, hk⟩ := fuel hk
  have hy := hg _ (getD_mem fs z45 i (by omega))
  have e1 : wrap64 ((i : Int) + 1) = ((i + 1 : Nat) : Int) := by rw [w64 (by omega) (by omega)]; omega
  rw [spec_FactIndex.l0, if_pos (by omega), if_pos (by omega), e1]
  unfold rd_T45
  rw [Int.toNat_natCast, cmpFS _ _ _ _ hy hv k (by omega), Option.bind_some, List.drop_eq_getElem_cons (by omega), idxW, getD_lt fs _ i (by omega)]
  unfold factIs
  by_cases h : cmpF fs[i].f0 fs[i].f1 a vs = 0
  ·rw [if_pos h, if_pos (by simpa using h)]
  ·rw [if_neg h, if_neg (by simpa using h), ih (i + 1) (by omega) k (by omega)]
   unfold factIs
   rfl
theorem fidxS (l : List S74) (fs : List S45) (hf : fs.length ≤ 1048576) (hg : ∀ y ∈ fs, y.f1.length ≤ 1048576) (a : Int) (vs : List Int) (hv : vs.length ≤ 1048576) (k : Nat) (hk : 4000000 < k) : spec_FactIndex.f k l fs a vs = some (idxW (factIs a vs) fs 0) := by
 unfold spec_FactIndex.f
 exact fidxSl l fs hf hg a vs hv fs.length 0 (by omega) k (by omega)
theorem hasS (l : List S74) (hl : l.length ≤ 1048576) (fs : List S45) (hf : fs.length ≤ 1048576) (hg : ∀ y ∈ fs, y.f1.length ≤ 1048576) (a : Int) (vs : List Int) (hv : vs.length ≤ 1048576) (k : Nat) (hk : 8000000 < k) : spec_ContainsFact.f k l fs a vs = some (vDb l fs && decide (idxW (factIs a vs) fs 0 ≥ 0)) := by
 unfold spec_ContainsFact.f
 rw [vDS l hl fs hf hg k (by omega), Option.bind_some]
 by_cases h : vDb l fs = true
 ·rw [if_pos h, fidxS l fs hf hg a vs hv k (by omega), Option.bind_some, h, Bool.true_and]
 ·rw [if_neg h, Bool.eq_false_iff.2 h, Bool.false_and]
def insAt (fs : List S45) (a : Int) (vs : List Int) : Nat → Nat → Nat
 | 0, i => i
 | d + 1, i => if cmpF (fs.getD i z45).f0 (fs.getD i z45).f1 a vs < 0 then insAt fs a vs d (i + 1) else i
theorem insAt_le (fs : List S45) (a : Int) (vs : List Int) : ∀ (d i : Nat), i ≤ insAt fs a vs d i ∧ insAt fs a vs d i ≤ i + d
 | 0, i => ⟨Nat.le_refl _, Nat.le_refl _⟩
 | d + 1, i => by
  rw [insAt]
  have := insAt_le fs a vs d (i + 1)
  split <;> omega
def insF (fs : List S45) (a : Int) (vs : List Int) : List S45 := fs.take (insAt fs a vs fs.length 0) ++ ⟨a, vs⟩ :: fs.drop (insAt fs a vs fs.length 0)
def mayIns (l : List S74) (fs : List S45) (a : Int) (vs : List Int) : Bool := vDb l fs && fits l a vs && decide (idxW (factIs a vs) fs 0 < 0) && decide (fs.length ≠ 14)
theorem insF_len (fs : List S45) (a : Int) (vs : List Int) : (insF fs a vs).length = fs.length + 1 := by
 have := insAt_le fs a vs fs.length 0
 unfold insF
 simp only [List.length_append, List.length_take, List.length_drop, List.length_cons]
 omega
theorem insF_mem (fs : List S45) (a : Int) (vs : List Int) (y : S45) : y ∈ insF fs a vs ↔ y ∈ fs ∨ y = ⟨a, vs⟩ := by
 unfold insF
 rw [List.mem_append, List.mem_cons]
 constructor
 ·rintro (h | h | h)
  ·exact .inl (List.mem_of_mem_take h)
  ·exact .inr h
  ·exact .inl (List.mem_of_mem_drop h)
 ·rintro (h | h)
  ·rw [← List.take_append_drop (insAt fs a vs fs.length 0) fs, List.mem_append] at h
   rcases h with h | h
   ·exact .inl h
   ·exact .inr (.inr h)
  ·exact .inr (.inl h)
theorem copySl (l l2 : List S74) (fs : List S45) (hf : fs.length ≤ 1048576) (hg : ∀ y ∈ fs, y.f1.length ≤ 1048576) (d : Nat) : ∀ (i : Nat), i + d = fs.length → ∀ k, d < k → spec_l4Copy.l0 k i l fs l2 (fs.take i) = some (l2, fs) := by
 induction d with
 | zero =>
  intro i hd k hk
  obtain ⟨k, rfl, hk⟩ := fuel hk
  rw [spec_l4Copy.l0, if_neg (by omega), List.take_of_length_le (by omega)]
 | succ d ih =>
  intro i hd k hk
  obtain ⟨k, rfl, hk⟩ := fuel hk
  have hy := hg _ (getD_mem fs z45 i (by omega))
  rw [spec_l4Copy.l0, if_pos (by omega), if_pos (by omega), Option.bind_some]
  unfold rd_T45
  rw [Int.toNat_natCast, if_pos (by simp only [List.length_nil]; omega), if_pos (by rw [List.length_take]; omega), List.nil_append, show wrap64 ((i : Int) + 1) = ((i + 1 : Nat) : Int) by rw [w64 (by omega) (by omega)]; omega]
  rw [show fs.take i ++ [(⟨(fs.getD i z45).f0, (fs.getD i z45).f1⟩ : S45)] = fs.take (i + 1) by rw [List.take_succ_eq_append_getElem (by omega), getD_lt fs _ i (by omega)]]
  exact ih (i + 1) (by omega) k (by omega)
theorem copyS (l : List S74) (hl : l.length ≤ 1048576) (fs : List S45) (hf : fs.length ≤ 1048576) (hg : ∀ y ∈ fs, y.f1.length ≤ 1048576) (k : Nat) (hk : fs.length < k) : spec_l4Copy.f k l fs = some (l, fs) := by
 unfold spec_l4Copy.f
 rw [Option.bind_some, if_pos (by simp only [List.length_nil]; omega), List.nil_append]
 exact copySl l l fs hf hg fs.length 0 (by omega) k hk
theorem insSl (l : List S74) (fs : List S45) (hf : fs.length ≤ 1048576) (hg : ∀ y ∈ fs, y.f1.length ≤ 1048576) (a : Int) (vs : List Int) (hv : vs.length ≤ 1048576) (d : Nat) : ∀ (i : Nat), i + d = fs.length → ∀ k, d + 2097160 < k → spec_InsertFact.l0 k i a vs l fs = some (l, fs.take (insAt fs a vs d i) ++ ⟨a, vs⟩ :: fs.drop (insAt fs a vs d i), true) := by
 induction d with
 | zero =>
  intro i hd k hk
  obtain ⟨k, rfl, hk⟩ := fuel hk
  rw [spec_InsertFact.l0, if_neg (by omega), insAt]
  simp only [Option.bind_some]
  rw [if_pos (by simp only [List.length_nil]; omega), if_pos (by omega), if_pos (by omega), if_pos (by simp only [List.length_cons, List.length_nil, List.length_drop]; omega), if_pos (by simp only [List.length_nil, List.length_take]; omega), if_pos (by simp only [List.nil_append, List.length_append, List.length_cons, List.length_nil, List.length_drop, List.length_take]; omega)]
  simp
 | succ d ih =>
  intro i hd k hk
  obtain ⟨k, rfl, hk⟩ := fuel hk
  have hy := hg _ (getD_mem fs z45 i (by omega))
  have e1 : wrap64 ((i : Int) + 1) = ((i + 1 : Nat) : Int) := by rw [w64 (by omega) (by omega)]; omega
  rw [spec_InsertFact.l0, if_pos (by omega), if_pos (by omega), e1]
  unfold rd_T45
  rw [Int.toNat_natCast, cmpFS _ _ _ _ hy hv k (by omega), Option.bind_some, insAt]
  by_cases c : cmpF (fs.getD i z45).f0 (fs.getD i z45).f1 a vs < 0
  ·rw [if_pos c, if_pos c]
   exact ih (i + 1) (by omega) k (by omega)
  ·rw [if_neg c, if_neg c]
   simp only [Option.bind_some]
   rw [if_pos (by simp only [List.length_nil]; omega), if_pos (by omega), if_pos (by simp only [List.length_cons, List.length_nil, List.length_drop]; omega), if_pos (by simp only [List.length_nil, List.length_take]; omega), if_pos (by simp only [List.nil_append, List.length_append, List.length_cons, List.length_nil, List.length_drop, List.length_take]; omega)]
   simp
theorem insS (l : List S74) (hl : l.length ≤ 1048576) (fs : List S45) (hf : fs.length ≤ 1048576) (hg : ∀ y ∈ fs, y.f1.length ≤ 1048576) (a : Int) (vs : List Int) (hv : vs.length ≤ 1048576) (k : Nat) (hk : 8000001 < k) :
  spec_InsertFact.f k l fs a vs = some (if mayIns l fs a vs = true then (l, insF fs a vs, true) else (l, fs, false)) := by
 obtain ⟨k, rfl⟩ : ∃ z, k = z + 1 := ⟨k - 1, by omega⟩
 unfold spec_InsertFact.f mayIns
 rw [copyS l hl fs hf hg _ (by omega), Option.bind_some, vDS l hl fs hf hg _ (by omega), Option.bind_some]
 by_cases h0 : vDb l fs = true
 ·obtain ⟨q1, q2, q3, q4⟩ := vDb_parts l fs h0
  rw [if_pos h0, vFS l hl a vs hv _ (by omega), Option.bind_some]
  unfold vFact
  rw [q1, Bool.true_and, h0, Bool.true_and]
  by_cases h1 : fits l a vs = true
  ·rw [if_pos h1, hasS l hl fs hf hg a vs hv _ (by omega), Option.bind_some, h0, h1]
   by_cases h2 : idxW (factIs a vs) fs 0 ≥ 0
   ·rw [if_pos (by simpa using h2), spec_InsertFact.j0, if_pos rfl, decide_eq_false (show ¬ idxW (factIs a vs) fs 0 < 0 by omega)]
    simp
   ·rw [if_neg (by simpa using h2), decide_eq_true (show idxW (factIs a vs) fs 0 < 0 by omega), spec_InsertFact.j0]
    by_cases h3 : fs.length = 14
    ·rw [if_pos (by rw [h3]; rfl), decide_eq_false (by omega)]
     simp
    ·rw [if_neg (by rw [beq_iff_eq]; omega), decide_eq_true h3, if_pos (by simp)]
     have := insSl l fs hf hg a vs hv fs.length 0 (by omega) k (by omega)
     exact this
  ·rw [if_neg h1, spec_InsertFact.j0, if_pos rfl, Bool.eq_false_iff.2 h1]
   simp
 ·rw [if_neg h0, spec_InsertFact.j0, if_pos rfl, Bool.eq_false_iff.2 h0]
  simp
theorem copyIl (l : List S74) (fs : List S45) (hf : fs.length ≤ 1048576) (hg : ∀ y ∈ fs, y.f1.length ≤ 1048576) (d : Nat) : ∀ (i : Nat), i + d = fs.length → ∀ k, d < k → impl_copyDatabase.l0 k fs fs.length i l (fs.take i) = some (l, fs) := by
 induction d with
 | zero =>
  intro i hd k hk
  obtain ⟨k, rfl, hk⟩ := fuel hk
  rw [impl_copyDatabase.l0, if_neg (by omega), List.take_of_length_le (by omega)]
 | succ d ih =>
  intro i hd k hk
  obtain ⟨k, rfl, hk⟩ := fuel hk
  have hy := hg _ (getD_mem fs z45 i (by omega))
  rw [impl_copyDatabase.l0, if_pos (by omega), if_pos (by omega), if_pos (by omega), Option.bind_some]
  unfold rd_T45
  rw [Int.toNat_natCast, if_pos (by simp only [List.length_nil]; omega), if_pos (by rw [List.length_take]; omega), List.nil_append, show wrap64 ((i : Int) + 1) = ((i + 1 : Nat) : Int) by rw [w64 (by omega) (by omega)]; omega]
  rw [show fs.take i ++ [(⟨(fs.getD i z45).f0, (fs.getD i z45).f1⟩ : S45)] = fs.take (i + 1) by rw [List.take_succ_eq_append_getElem (by omega), getD_lt fs _ i (by omega)]]
  exact ih (i + 1) (by omega) k (by omega)
theorem copyI (l : List S74) (hl : l.length ≤ 1048576) (fs : List S45) (hf : fs.length ≤ 1048576) (hg : ∀ y ∈ fs, y.f1.length ≤ 1048576) (k : Nat) (hk : fs.length < k) : impl_copyDatabase.f k l fs = some (l, fs) := by
 unfold impl_copyDatabase.f
 rw [Option.bind_some, if_pos (by simp only [List.length_nil]; omega), List.nil_append]
 exact copyIl l fs hf hg fs.length 0 (by omega) k hk
theorem insIl (l : List S74) (fs : List S45) (hf : fs.length ≤ 1048576) (hg : ∀ y ∈ fs, y.f1.length ≤ 1048576) (a : Int) (vs : List Int) (hv : vs.length ≤ 1048576) (d : Nat) : ∀ (i : Nat), i + d = fs.length → ∀ k, d + 2097160 < k → impl_InsertFact.l0 k i l fs a vs l fs = some (l, fs.take (insAt fs a vs d i) ++ ⟨a, vs⟩ :: fs.drop (insAt fs a vs d i), true) := by
 have hi : ∀ (k i : Nat), i ≤ fs.length → ((some (([] : List Int) : List Int)).bind fun y => (if y.length + vs.length < 17592186044416 then ((impl_Fact_52.f fs (i : Int) (([(⟨a, (y ++ vs)⟩ : S45)] : List (S45)))).bind fun t => (some (l, t, true))) else (none))) = some (l, fs.take i ++ ⟨a, vs⟩ :: fs.drop i, true) := by
  intro k i hi
  rw [Option.bind_some, if_pos (by simp only [List.length_nil]; omega), List.nil_append]
  unfold impl_Fact_52.f
  rw [if_pos ⟨by omega, by omega, rfl, by omega⟩, Option.bind_some, Int.toNat_natCast, List.append_assoc, List.singleton_append]
 induction d with
 | zero =>
  intro i hd k hk
  obtain ⟨k, rfl, hk⟩ := fuel hk
  rw [impl_InsertFact.l0, if_neg (by omega), insAt]
  exact hi k i (by omega)
 | succ d ih =>
  intro i hd k hk
  obtain ⟨k, rfl, hk⟩ := fuel hk
  have hy := hg _ (getD_mem fs z45 i (by omega))
  have e1 : wrap64 ((i : Int) + 1) = ((i + 1 : Nat) : Int) := by rw [w64 (by omega) (by omega)]; omega
  rw [impl_InsertFact.l0, if_pos (by omega), if_pos (by omega), e1]
  unfold rd_T45
  rw [Int.toNat_natCast, cmpFI _ _ _ _ (by omega) (by omega) k (by omega), Option.bind_some, insAt]
  by_cases c : cmpF (fs.getD i z45).f0 (fs.getD i z45).f1 a vs < 0
  ·rw [if_pos c, if_pos c]
   exact ih (i + 1) (by omega) k (by omega)
  ·rw [if_neg c, if_neg c]
   exact hi k i (by omega)
def insR (l : List S74) (fs : List S45) (a : Int) (vs : List Int) : List S74 × List S45 × Bool := if mayIns l fs a vs = true then (l, insF fs a vs, true) else (l, fs, false)
theorem insI (l : List S74) (hl : l.length ≤ 1048576) (fs : List S45) (hf : fs.length ≤ 1048576) (hg : ∀ y ∈ fs, y.f1.length ≤ 1048576) (a : Int) (vs : List Int) (hv : vs.length ≤ 1048576) (k : Nat) (hk : 8000001 < k) :
  impl_InsertFact.f k l fs a vs = some (insR l fs a vs) := by
 obtain ⟨k, rfl⟩ : ∃ z, k = z + 1 := ⟨k - 1, by omega⟩
 unfold impl_InsertFact.f insR mayIns impl_IsValidDatabase.f impl_FactIndex.f
 rw [copyI l hl fs hf hg _ (by omega), Option.bind_some, Option.bind_some]
 by_cases h0 : vDb l fs = true
 ·rw [if_pos h0, fitI l (by omega), Option.bind_some, h0, Bool.true_and]
  by_cases h1 : fits l a vs = true
  ·rw [if_pos h1, Option.bind_some, h1, Bool.true_and]
   by_cases h2 : idxW (factIs a vs) fs 0 ≥ 0
   ·rw [if_pos h2, impl_InsertFact.j0, if_pos rfl, decide_eq_false (show ¬ idxW (factIs a vs) fs 0 < 0 by omega)]
    simp
   ·rw [if_neg h2, decide_eq_true (show idxW (factIs a vs) fs 0 < 0 by omega), impl_InsertFact.j0]
    by_cases h3 : fs.length = 14
    ·rw [if_pos (by rw [h3]; rfl), decide_eq_false (by omega)]
     simp
    ·rw [if_neg (by rw [beq_iff_eq]; omega), decide_eq_true h3, if_pos (by simp)]
     have := insIl l fs hf hg a vs hv fs.length 0 (by omega) k (by omega)
     exact this
  ·rw [if_neg h1, impl_InsertFact.j0, if_pos rfl, Bool.eq_false_iff.2 h1]
   simp
 ·rw [if_neg h0, impl_InsertFact.j0, if_pos rfl, Bool.eq_false_iff.2 h0]
  simp
theorem insB (l : List S74) (hl : l.length ≤ 1048576) (fs : List S45) (hf : fs.length ≤ 1048576) (hg : ∀ y ∈ fs, y.f1.length ≤ 1048576) (a : Int) (vs : List Int) (hv : vs.length ≤ 1048576) (k : Nat) (hk : 8000001 < k) : spec_InsertFact.f k l fs a vs = some (insR l fs a vs) ∧ impl_InsertFact.f k l fs a vs = some (insR l fs a vs) :=
 ⟨insS l hl fs hf hg a vs hv k hk, insI l hl fs hf hg a vs hv k hk⟩
theorem insOk (l : List S74) (hl : l.length ≤ 1048576) (fs : List S45) (hf : fs.length ≤ 1048576) (hg : ∀ y ∈ fs, y.f1.length ≤ 1048576) (a : Int) (vs : List Int) (hv : vs.length ≤ 1048576) : ∃ (L : List S74) (F : List S45) (b : Bool), insR l fs a vs = (L, F, b) ∧ L.length ≤ 1048576 ∧ F.length ≤ 1048576 ∧ ∀ y ∈ F, y.f1.length ≤ 1048576 := by
 unfold insR
 split
 ·rename_i h
  have h14 : fs.length ≤ 14 := by
   unfold mayIns at h
   simp only [Bool.and_eq_true] at h
   exact (vDb_parts l fs h.1.1.1).2.1
  refine ⟨_, _, _, rfl, hl, by rw [insF_len]; omega, fun y hy => ?_⟩
  rcases (insF_mem fs a vs y).1 hy with h | h
  ·exact hg y h
  ·rw [h]; exact hv
 ·exact ⟨_, _, _, rfl, hl, hf, hg⟩
def cnt : Int → Nat → List Int
 | _, 0 => []
 | a, d + 1 => a :: cnt (a + 1) d
theorem cnt_len : ∀ (a : Int) (d : Nat), (cnt a d).length = d
 | _, 0 => rfl
 | a, d + 1 => by rw [cnt, List.length_cons, cnt_len]
theorem markIl (n : Nat) (hn : n ≤ 1048576) (d : Nat) : ∀ (i : Nat) (xs : List Int) (a : Int), xs.length = n → i + d = n → 0 ≤ a → a + (d : Int) ≤ 4000000000000000000 → ∀ k, d < k → laws_markIntS.l0 k xs a i = some (a + d, xs.take i ++ cnt a d) := by
 induction d with
 | zero =>
  intro i xs a hx hd _ _ k hk
  obtain ⟨k, rfl, hk⟩ := fuel hk
  rw [laws_markIntS.l0, if_neg (by omega), List.take_of_length_le (by omega), cnt, List.append_nil]
  simp
 | succ d ih =>
  intro i xs a hx hd h0 h1 k hk
  obtain ⟨k, rfl, hk⟩ := fuel hk
  rw [laws_markIntS.l0, if_pos (by omega), if_pos (by omega), Int.toNat_natCast, w64 (by omega) (by omega), show wrap64 ((i : Int) + 1) = ((i + 1 : Nat) : Int) by rw [w64 (by omega) (by omega)]; omega, ih (i + 1) (xs.set i a) (a + 1) (by simpa using hx) (by omega) (by omega) (by omega) k (by omega), take_set_succ xs i a (by omega), cnt, List.append_assoc]
  congr 2
  omega
theorem markI (xs : List Int) (hn : xs.length ≤ 1048576) (a : Int) (h0 : 0 ≤ a) (h1 : a ≤ 1000000000000000000) (k : Nat) (hk : xs.length < k) : laws_markIntS.f k xs a = some (a + xs.length, cnt a xs.length) := by
 unfold laws_markIntS.f
 exact markIl xs.length hn xs.length 0 xs a rfl (by omega) h0 (by omega) k hk
theorem heldIl (a0 : Int) (n : Nat) (h0 : 0 ≤ a0) (h1 : a0 ≤ 1000000000000000000) (hn : n ≤ 1048576) (d : Nat) : ∀ (i : Nat), i + d = n → (cnt a0 n).drop i = cnt (a0 + i) d → ∀ k, d < k → laws_heldIntS.l0 k (cnt a0 n) (a0 + i) i = some (a0 + n) := by
 have hl := cnt_len a0 n
 induction d with
 | zero =>
  intro i hd _ k hk
  obtain ⟨k, rfl, hk⟩ := fuel hk
  rw [laws_heldIntS.l0, if_neg (by omega), show i = n by omega]
 | succ d ih =>
  intro i hd hc k hk
  obtain ⟨k, rfl, hk⟩ := fuel hk
  rw [cnt, List.drop_eq_getElem_cons (by omega)] at hc
  obtain ⟨c1, c2⟩ := List.cons.inj hc
  have hr : rd (cnt a0 n) (i : Int) = a0 + i := by unfold rd; rw [Int.toNat_natCast, getD_lt _ _ i (by omega)]; exact c1
  rw [laws_heldIntS.l0, if_pos (by omega), if_pos (by omega), if_pos hr, show wrap64 ((i : Int) + 1) = ((i + 1 : Nat) : Int) by rw [w64 (by omega) (by omega)]; omega, show wrap64 (a0 + (i : Int) + 1) = a0 + ((i + 1 : Nat) : Int) by rw [w64 (by omega) (by omega)]; omega]
  refine ih (i + 1) (by omega) ?_ k (by omega)
  rw [c2]
  congr 1
  omega
theorem heldI (n : Nat) (a0 : Int) (h0 : 0 ≤ a0) (h1 : a0 ≤ 1000000000000000000) (hn : n ≤ 1048576) (k : Nat) (hk : n < k) : laws_heldIntS.f k (cnt a0 n) a0 = some (a0 + n) := by
 unfold laws_heldIntS.f
 have := heldIl a0 n h0 h1 hn n 0 (by omega) (by simp) k hk
 simpa using this
theorem textD (d : Nat) : ∀ (x : Int) (s : ByteArray), 0 ≤ x → x < 10 ^ d → x ≤ 4000000000 → s.size + d ≤ 1000 → ∃ t, ∀ k, d < k → laws_markText.l0 k x s = some t := by
 induction d with
 | zero =>
  intro x s h0 h1 _ hs
  rw [Int.pow_zero] at h1
  refine ⟨(⟨#[109]⟩ : ByteArray) ++ s, fun k hk => ?_⟩
  obtain ⟨k, rfl, hk⟩ := fuel hk
  rw [laws_markText.l0, if_neg (by omega), if_pos (by omega)]
 | succ d ih =>
  intro x s h0 h1 h2 hs
  by_cases hx : x > 0
  ·have hz : ∀ z : Int, (strOfNums [z]).size = 1 := fun z => by rw [sn_size]; rfl
   obtain ⟨t, ht⟩ := ih (x / 10) (strOfNums [(wrap64 (48 + (Int.tmod x 10))) % 256] ++ s) (by omega) (by rw [Int.pow_succ] at h1; omega) (by omega) (by rw [ByteArray.size_append, hz]; omega)
   refine ⟨t, fun k hk => ?_⟩
   obtain ⟨k, rfl, hk⟩ := fuel hk
   rw [laws_markText.l0, if_pos hx, Option.bind_some, if_pos (by rw [hz]; omega), td h0, w64 (n := x / 10) (by omega) (by omega)]
   exact ht k (by omega)
  ·refine ⟨(⟨#[109]⟩ : ByteArray) ++ s, fun k hk => ?_⟩
   obtain ⟨k, rfl, hk⟩ := fuel hk
   rw [laws_markText.l0, if_neg hx, if_pos (by omega)]
theorem markTD (x : Int) (h0 : 0 ≤ x) (h1 : x ≤ 1000000000) : ∃ t, ∀ k, 20 < k → laws_markText.f k x = some t := by
 unfold laws_markText.f
 by_cases h : x ≤ 0
 ·exact ⟨_, fun _ _ => if_pos h⟩
 ·have hp : (10 : Int) ^ 10 = 10000000000 := by decide
  obtain ⟨t, ht⟩ := textD 10 x (⟨#[]⟩ : ByteArray) h0 (by omega) (by omega) (by decide)
  exact ⟨t, fun k hk => by rw [if_neg h]; exact ht k (by omega)⟩
noncomputable def mTx (x : Int) : ByteArray := Classical.epsilon fun t => ∀ k, 20 < k → laws_markText.f k x = some t
theorem mTx_at (x : Int) (h0 : 0 ≤ x) (h1 : x ≤ 1000000000) (k : Nat) (hk : 20 < k) : laws_markText.f k x = some (mTx x) :=
 Classical.epsilon_spec (markTD x h0 h1) k hk
noncomputable def cntR : Int → Nat → List S74
 | _, 0 => []
 | a, d + 1 => (⟨mTx a, a + 1, a + 1 + 1⟩ : S74) :: cntR (a + 1 + 1 + 1) d
theorem cntR_len : ∀ (a : Int) (d : Nat), (cntR a d).length = d
 | _, 0 => rfl
 | a, d + 1 => by rw [cntR, List.length_cons, cntR_len]
theorem set3 (xs : List S74) (i : Nat) (h : i < xs.length) (a b c : S74) : ((xs.set i a).set i b).set i c = xs.set i c := by rw [List.set_set, List.set_set]
theorem rd_set (xs : List S74) (i : Nat) (h : i < xs.length) (a : S74) : rd_T74 (xs.set i a) (i : Int) = a := by
 unfold rd_T74
 rw [Int.toNat_natCast, getD_lt _ _ i (by simpa using h)]
 simp
theorem markRDl (n : Nat) (hn : n ≤ 1048576) (d : Nat) : ∀ (i : Nat) (xs : List S74) (a : Int), xs.length = n → i + d = n → 0 ≤ a → a + 3 * (d : Int) ≤ 1000000000 → ∀ k, d + 21 < k → laws_markRelationS.l0 k xs a i = some (a + 3 * d, xs.take i ++ cntR a d) := by
 induction d with
 | zero =>
  intro i xs a hx hd _ _ k hk
  obtain ⟨k, rfl, hk⟩ := fuel hk
  rw [laws_markRelationS.l0, if_neg (by omega), List.take_of_length_le (by omega), cntR, List.append_nil]
  simp
 | succ d ih =>
  intro i xs a hx hd h0 h1 k hk
  obtain ⟨k, rfl, hk⟩ := fuel hk
  rw [laws_markRelationS.l0, if_pos (by omega), mTx_at a h0 (by omega) k (by omega), Option.bind_some, if_pos (by omega), Option.bind_some, Option.bind_some, w64 (n := a + 1) (by omega) (by omega), w64 (n := a + 1 + 1) (by omega) (by omega), w64 (n := a + 1 + 1 + 1) (by omega) (by omega), show wrap64 ((i : Int) + 1) = ((i + 1 : Nat) : Int) by rw [w64 (by omega) (by omega)]; omega, show a + 3 * ((d + 1 : Nat) : Int) = a + 1 + 1 + 1 + 3 * (d : Int) by omega]
  simp only [Int.toNat_natCast]
  rw [rd_set xs i (by omega), rd_set _ i (by simp; omega), set3 xs i (by omega)]
  dsimp only
  rw [ih (i + 1) _ (a + 1 + 1 + 1) (by simpa using hx) (by omega) (by omega) (by omega) k (by omega), take_set_succ xs i _ (by omega), cntR, List.append_assoc]
  rfl
theorem heldRDl (a0 : Int) (n : Nat) (h0 : 0 ≤ a0) (h1 : a0 + 3 * (n : Int) ≤ 1000000000) (d : Nat) : ∀ (i : Nat) (a : Int), a = a0 + 3 * (i : Int) → i + d = n → (cntR a0 n).drop i = cntR a d → ∀ k, d + 21 < k → laws_heldRelationS.l0 k (cntR a0 n) a i = some (a0 + 3 * (n : Int)) := by
 have hl := cntR_len a0 n
 induction d with
 | zero =>
  intro i a ha hd _ k hk
  obtain ⟨k, rfl, hk⟩ := fuel hk
  rw [laws_heldRelationS.l0, if_neg (by omega), ha, show i = n by omega]
 | succ d ih =>
  intro i a ha hd hc k hk
  obtain ⟨k, rfl, hk⟩ := fuel hk
  rw [cntR, List.drop_eq_getElem_cons (by omega)] at hc
  obtain ⟨c1, c2⟩ := List.cons.inj hc
  have hr : rd_T74 (cntR a0 n) (i : Int) = (⟨mTx a, a + 1, a + 1 + 1⟩ : S74) := by unfold rd_T74; rw [Int.toNat_natCast, getD_lt _ _ i (by omega)]; exact c1
  rw [laws_heldRelationS.l0, if_pos (by omega), if_pos (by omega), mTx_at a (by omega) (by omega) k (by omega), Option.bind_some, hr]
  dsimp only
  rw [if_pos rfl, w64 (n := a + 1) (by omega) (by omega), if_pos rfl, w64 (n := a + 1 + 1) (by omega) (by omega), if_pos rfl, w64 (n := a + 1 + 1 + 1) (by omega) (by omega), show wrap64 ((i : Int) + 1) = ((i + 1 : Nat) : Int) by rw [w64 (by omega) (by omega)]; omega]
  exact ih (i + 1) (a + 1 + 1 + 1) (by omega) (by omega) c2 k (by omega)
def cntF : Int → List Nat → List S45
 | _, [] => []
 | a, n :: ns => (⟨a, cnt (a + 1) n⟩ : S45) :: cntF (a + 1 + n) ns
def endF : Int → List Nat → Int
 | a, [] => a
 | a, n :: ns => endF (a + 1 + n) ns
theorem cntF_len : ∀ (a : Int) (ns : List Nat), (cntF a ns).length = ns.length
 | _, [] => rfl
 | a, n :: ns => by rw [cntF, List.length_cons, List.length_cons, cntF_len]
theorem endF_le : ∀ (ns : List Nat) (a : Int), (∀ n ∈ ns, n ≤ 1048576) → a ≤ endF a ns ∧ endF a ns ≤ a + 1048577 * (ns.length : Int)
 | [], a, _ => by simp [endF]
 | n :: ns, a, h => by
  have := endF_le ns (a + 1 + n) (fun m hm => h m (List.mem_cons_of_mem _ hm))
  have h1 := h n (List.mem_cons_self ..)
  rw [endF, List.length_cons]
  omega
theorem markFDl (n : Nat) (hn : n ≤ 1048576) (d : Nat) : ∀ (i : Nat) (xs : List S45) (a : Int), xs.length = n → (∀ y ∈ xs, y.f1.length ≤ 1048576) → i + d = n → 0 ≤ a → a + 1048577 * (d : Int) ≤ 100000000000000000 → ∀ k, d + 1048577 < k → laws_markFactS.l0 k xs a i = some (endF a ((xs.drop i).map fun y => y.f1.length), xs.take i ++ cntF a ((xs.drop i).map fun y => y.f1.length)) := by
 induction d with
 | zero =>
  intro i xs a hx hg hd h0 _ k hk
  obtain ⟨k, rfl, hk⟩ := fuel hk
  rw [laws_markFactS.l0, if_neg (by omega), List.drop_eq_nil_of_le (by omega), List.take_of_length_le (by omega), List.map_nil, cntF, endF, List.append_nil]
 | succ d ih =>
  intro i xs a hx hg hd h0 h1 k hk
  obtain ⟨k, rfl, hk⟩ := fuel hk
  have he : rd_T45 xs (i : Int) = xs[i]'(by omega) := by unfold rd_T45; rw [Int.toNat_natCast, getD_lt _ _ i (by omega)]
  have hr : (xs[i]'(by omega)).f1.length ≤ 1048576 := hg _ (List.getElem_mem _)
  rw [laws_markFactS.l0, if_pos (by omega), if_pos (by omega), w64 (n := a + 1) (by omega) (by omega), he, markI _ hr _ (by omega) (by omega) k (by omega), Option.bind_some, show wrap64 ((i : Int) + 1) = ((i + 1 : Nat) : Int) by rw [w64 (by omega) (by omega)]; omega, Int.toNat_natCast]
  dsimp only
  rw [ih (i + 1) _ _ (by rw [List.length_set]; exact hx) (fun y hy => by
   rcases List.mem_or_eq_of_mem_set hy with h | h
   ·exact hg y h
   ·rw [h, cnt_len]; exact hr) (by omega) (by omega) (by push_cast at h1 ⊢; omega) k (by omega), take_set_succ xs i _ (by omega)]
  rw [show (xs.set i (⟨a, cnt (a + 1) (xs[i]'(by omega)).f1.length⟩ : S45)).drop (i + 1) = xs.drop (i + 1) by rw [List.drop_set_of_lt (by omega)]]
  rw [List.drop_eq_getElem_cons (i := i) (l := xs) (by omega), List.map_cons, cntF, endF, List.append_assoc]
  rfl
theorem heldFDl (ys : List S45) (hn : ys.length ≤ 1048576) : ∀ (ns : List Nat) (i : Nat) (a : Int), (∀ n ∈ ns, n ≤ 1048576) → i + ns.length = ys.length → ys.drop i = cntF a ns → 0 ≤ a → a + 1048577 * (ns.length : Int) ≤ 100000000000000000 → ∀ k, ns.length + 1048577 < k → laws_heldFactS.l0 k ys a i = some (endF a ns) := by
 intro ns
 induction ns with
 | nil =>
  intro i a _ hd _ _ _ k hk
  obtain ⟨k, rfl, hk⟩ := fuel hk
  rw [List.length_nil] at hd
  rw [laws_heldFactS.l0, if_neg (by omega), endF]
 | cons n ns ih =>
  intro i a hb hd hc h0 h1 k hk
  obtain ⟨k, rfl, hk⟩ := fuel hk
  rw [List.length_cons] at hd h1 hk
  have hnb := hb n (List.mem_cons_self ..)
  rw [cntF, List.drop_eq_getElem_cons (by omega)] at hc
  obtain ⟨c1, c2⟩ := List.cons.inj hc
  have hr : rd_T45 ys (i : Int) = (⟨a, cnt (a + 1) n⟩ : S45) := by unfold rd_T45; rw [Int.toNat_natCast, getD_lt _ _ i (by omega)]; exact c1
  rw [laws_heldFactS.l0, if_pos (by omega), if_pos (by omega), hr]
  dsimp only
  rw [if_pos rfl, w64 (n := a + 1) (by omega) (by omega), heldI n (a + 1) (by omega) (by omega) hnb k (by omega), Option.bind_some, if_neg (by omega), show wrap64 ((i : Int) + 1) = ((i + 1 : Nat) : Int) by rw [w64 (by omega) (by omega)]; omega, endF]
  exact ih (i + 1) (a + 1 + n) (fun m hm => hb m (List.mem_cons_of_mem _ hm)) (by omega) c2 (by omega) (by omega) k (by omega)
theorem markDD (l : List S74) (fs : List S45) (hl : l.length ≤ 1048576) (hf : fs.length ≤ 1048576) (hg : ∀ y ∈ fs, y.f1.length ≤ 1048576) : ∃ (m : Int) (ys : List S74) (zs : List S45), 0 ≤ m ∧ m ≤ 1000000000000000000 ∧ ys.length = l.length ∧ zs.length = fs.length ∧ ∀ k, 2097154 < k → laws_markDatabase.f k l fs 1 = some (m, ys, zs) ∧ laws_heldDatabase.f k ys zs 1 = some m := by
 have hns : ∀ n ∈ fs.map (fun y => y.f1.length), n ≤ 1048576 := by
  intro n hn
  obtain ⟨y, hy, rfl⟩ := List.mem_map.1 hn
  exact hg y hy
 have hnl : (fs.map (fun y => y.f1.length)).length = fs.length := by simp
 have he := endF_le (fs.map (fun y => y.f1.length)) (1 + 3 * l.length) hns
 rw [hnl] at he
 refine ⟨endF (1 + 3 * l.length) (fs.map (fun y => y.f1.length)), cntR 1 l.length, cntF (1 + 3 * l.length) (fs.map (fun y => y.f1.length)), by omega, by omega, cntR_len _ _, by rw [cntF_len, hnl], fun k hk => ?_⟩
 have a1 := markRDl l.length hl l.length 0 l 1 rfl (by omega) (by omega) (by omega) k (by omega)
 have a2 := markFDl fs.length hf fs.length 0 fs (1 + 3 * l.length) rfl hg (by omega) (by omega) (by omega) k (by omega)
 have a3 := heldRDl 1 l.length (by omega) (by omega) l.length 0 1 (by omega) (by omega) (by rw [List.drop_zero]) k (by omega)
 have a4 := heldFDl (cntF (1 + 3 * l.length) (fs.map (fun y => y.f1.length))) (by rw [cntF_len, hnl]; omega) (fs.map (fun y => y.f1.length)) 0 (1 + 3 * l.length) hns (by rw [cntF_len]; omega) (by rw [List.drop_zero]) (by omega) (by rw [hnl]; omega) k (by rw [hnl]; omega)
 rw [List.take_zero, List.nil_append] at a1 a2
 rw [List.drop_zero] at a2
 constructor
 ·unfold laws_markDatabase.f laws_markRelationS.f laws_markFactS.f
  rw [show (0 : Int) = ((0 : Nat) : Int) from rfl, a1, Option.bind_some]
  dsimp only
  rw [a2, Option.bind_some]
 ·unfold laws_heldDatabase.f laws_heldRelationS.f laws_heldFactS.f
  rw [show (0 : Int) = ((0 : Nat) : Int) from rfl, a3, Option.bind_some, if_neg (by omega), a4, Option.bind_some, if_neg (by omega)]
theorem FnExactInsertFact : FnExactInsertFactPure := by
 intro x y hx hy
 obtain ⟨r, h1, h2, h3, h4⟩ := szD x.f0 x.f1 hx.1.1 (fun y hy => (hx.1.2 y hy).1) hx.2.1 (fun y hy => (hx.2.2 y hy).2.1) 1048576 (by omega) (by omega)
 by_cases hr : r < 0
 ·refine ⟨x.f0.length + x.f1.length + 1, ?_⟩
  unfold laws_FnExactInsertFact.f
  rw [h4 _ (by omega) (by omega), Option.bind_some, if_pos hr]
 obtain ⟨r', g1, g2, g3, g4⟩ := szF y.f0 y.f1 r hy.2.1 (by omega) (by omega)
 by_cases hr' : r' < 0
 ·refine ⟨x.f0.length + x.f1.length + 1, ?_⟩
  unfold laws_FnExactInsertFact.f
  rw [h4 _ (by omega) (by omega), Option.bind_some, if_neg hr, g1, Option.bind_some, if_pos hr']
 obtain ⟨hl, hf, hg⟩ := h3 (by omega)
 have hl : x.f0.length ≤ 1048576 := by omega
 have hf : x.f1.length ≤ 1048576 := by omega
 have hg : ∀ y ∈ x.f1, y.f1.length ≤ 1048576 := fun y hy => by have := hg y hy; omega
 have hy' : y.f1.length ≤ 1048576 := by have := g4 (by omega); omega
 have hml : (x.f0.map cvR).length = x.f0.length := by simp
 have hmf : (x.f1.map cvF).length = x.f1.length := by simp
 have hmg := cvFg x.f1 hg
 refine ⟨9000001, ?_⟩
 generalize hk : (9000001 : Nat) = k
 unfold laws_FnExactInsertFact.f
 rw [h4 _ (by omega) (by omega), Option.bind_some, if_neg hr, g1, Option.bind_some, if_neg hr', toD _ _ hl hf hg _ (by omega), toF _ _ hy' _ (by omega)]
 simp only [Option.bind_some]
 obtain ⟨m, ys, zs, hm0, hmb, _, _, hm⟩ := markDD (x.f0.map cvR) (x.f1.map cvF) (by omega) (by omega) hmg
 obtain ⟨e1, e2⟩ := insB (x.f0.map cvR) (by omega) (x.f1.map cvF) (by omega) hmg y.f0 y.f1 hy' k (by omega)
 rw [e1, e2]
 simp only [Option.bind_some]
 obtain ⟨L, F, b, hR, hL, hF, hG⟩ := insOk (x.f0.map cvR) (by omega) (x.f1.map cvF) (by omega) hmg y.f0 y.f1 hy'
 obtain ⟨m', ys', zs', hm0', hmb', _, _, hm'⟩ := markDD L F hL hF hG
 rw [hR]
 dsimp only
 rw [eqD _ _ hL hF hG _ (by omega)]
 simp only [Option.bind_some, if_true, beq_self_eq_true]
 rw [eqD _ _ (by omega) (by omega) hmg _ (by omega)]
 simp only [Option.bind_some, if_true]
 rw [eqF _ _ hy' _ (by omega)]
 simp only [Option.bind_some, if_true]
 rw [(hm k (by omega)).1]
 simp only [Option.bind_some]
 rw [show laws_markFact.f k y.f0 y.f1 m = some (m + (y.f1.length : Int), cnt m y.f1.length) by unfold laws_markFact.f; rw [markI _ hy' m hm0 hmb _ (by omega), Option.bind_some]]
 simp only [Option.bind_some]
 rw [if_neg (by omega), (hm' k (by omega)).1]
 simp only [Option.bind_some]
 rw [(hm' k (by omega)).2]
 simp only [Option.bind_some]
 rw [if_neg (by omega), if_pos trivial]
end Go.Proofs.Yteddnlklfjpgoaa.Pure
