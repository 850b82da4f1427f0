/- The law FnExactIsMaximalIndependent answers true for every number, edges and set that the row admits: both texts answer alike, and the arguments are left as they were. -/
import Derived.Test.YtddeflhambegiaaGFnExactIsMaximalIndependent
import Derived.Test.YtddeflhambegiaaBase
namespace Go.Proofs.Ytddeflhambegiaa.Pure
open Go.RowKit Go.Proofs.Ytddeflhambegiaa.PFnExactIsMaximalIndependent Go.Proofs.YtddeflhambegiaaW.PrintWords Go.Proofs.YtddeflhambegiaaW.PrintLast Go.Proofs.YtddeflhambegiaaW.PrintMore Go.Proofs.Ytddeflhambegiaa.Base
set_option linter.unusedVariables false
set_option linter.unusedSimpArgs false

/-! ### lists of numbers: what the laws' own functions on them come to -/
theorem toIl (l : List Int) (hl : l.length ≤ 1048576) (d : Nat) : ∀ (i : Nat) (xs : List Int), (l.length : Int) - i = d → xs.length = l.length → xs.take i = l.take i → ∀ k, d < k → laws_toIntS.l0 k l xs i = some l := by
  induction d with
  | zero =>
    intro i xs hd hx ht k hk
    obtain ⟨k, rfl, hk⟩ := fuel hk
    rw [laws_toIntS.l0, if_neg (by omega)]
    rw [List.take_of_length_le (by omega), List.take_of_length_le (by omega)] at ht
    rw [ht]
  | succ d ih =>
    intro i xs hd hx ht k hk
    obtain ⟨k, rfl, hk⟩ := fuel hk
    rw [laws_toIntS.l0, if_pos (by omega), if_pos (by omega), if_pos (by omega), show wrap64 ((i : Int) + 1) = ((i + 1 : Nat) : Int) by rw [w64 (by omega) (by omega)]; omega]
    refine ih (i + 1) _ (by omega) (by simpa using hx) ?_ k (by omega)
    rw [Int.toNat_natCast, take_set_succ _ _ _ (by omega), ht, List.take_succ_eq_append_getElem (by omega)]
    congr 2
    unfold rd
    rw [Int.toNat_natCast, getD_lt l _ i (by omega)]
theorem toI (l : List Int) (hl : l.length ≤ 1048576) (k : Nat) (hk : l.length < k) : laws_toIntS.f k l = some l := by
  unfold laws_toIntS.f
  rw [if_pos (by omega), Int.toNat_natCast, if_pos (by omega)]
  exact toIl l hl l.length 0 _ (by omega) (by simp) (by simp) k hk
theorem eqIl (l : List Int) (hl : l.length ≤ 1048576) (d : Nat) : ∀ (i : Int), 0 ≤ i → (l.length : Int) - i = d → ∀ k, d < k → laws_eqIntS.l0 k l l i = some true := by
  induction d with
  | zero =>
    intro i h0 hd k hk
    obtain ⟨k, rfl, hk⟩ := fuel hk
    rw [laws_eqIntS.l0, if_neg (by omega)]
  | succ d ih =>
    intro i h0 hd k hk
    obtain ⟨k, rfl, hk⟩ := fuel hk
    rw [laws_eqIntS.l0, if_pos (by omega), if_pos h0, if_pos (by omega), if_pos rfl, w64 (by omega) (by omega)]
    exact ih (i + 1) (by omega) (by omega) k (by omega)
theorem eqI (l : List Int) (hl : l.length ≤ 1048576) (k : Nat) (hk : l.length < k) : laws_eqIntS.f k l l = some true := by
  unfold laws_eqIntS.f
  rw [if_pos rfl]
  exact eqIl l hl l.length 0 (by omega) (by omega) k hk

/-! ### edges: what the laws' own functions on them come to -/
def cvE (x : S91) : S89 := ⟨x.f0, x.f1⟩
theorem szES (l : List S91) (v : Int) (hl : l.length ≤ maxLen) (hv : 0 ≤ v) (hv1 : v ≤ 1048576) : ∃ r, laws_szConflictEdgeS.f l v = some r ∧ r ≤ v ∧ -1 ≤ r ∧ (0 ≤ r → (l.length : Int) ≤ v) := by
  unfold maxLen at hl
  unfold laws_szConflictEdgeS.f
  rw [w64 (by omega) (by omega)]
  by_cases h : v - (l.length : Int) < 0
  · exact ⟨-1, if_pos h, by omega, by omega, fun h => absurd h (by decide)⟩
  · exact ⟨_, if_neg h, by omega, by omega, fun _ => by omega⟩
theorem toESl (l : List S91) (hl : l.length ≤ 1048576) (d : Nat) : ∀ (i : Nat) (xs : List S89), i + d = l.length → xs.length = l.length → xs.take i = (l.take i).map cvE → ∀ k, d < k → laws_toConflictEdgeS.l0 k l xs i = some (l.map cvE) := by
  induction d with
  | zero =>
    intro i xs hd hx ht k hk
    obtain ⟨k, rfl, hk⟩ := fuel hk
    rw [laws_toConflictEdgeS.l0, if_neg (by omega)]
    rw [List.take_of_length_le (by omega), List.take_of_length_le (by omega)] at ht
    rw [ht]
  | succ d ih =>
    intro i xs hd hx ht k hk
    obtain ⟨k, rfl, hk⟩ := fuel hk
    rw [laws_toConflictEdgeS.l0, if_pos (by omega), if_pos (by omega), laws_toConflictEdge.f, Option.bind_some, if_pos (by omega), show wrap64 ((i : Int) + 1) = ((i + 1 : Nat) : Int) by rw [w64 (by omega) (by omega)]; omega]
    refine ih (i + 1) _ (by omega) (by simpa using hx) ?_ k (by omega)
    rw [Int.toNat_natCast, take_set_succ _ _ _ (by omega), take_map_succ cvE z91 l i (by omega), ht]
    rfl
theorem toES (l : List S91) (hl : l.length ≤ 1048576) (k : Nat) (hk : l.length < k) : laws_toConflictEdgeS.f k l = some (l.map cvE) := by
  unfold laws_toConflictEdgeS.f
  rw [if_pos (by omega), Int.toNat_natCast, if_pos (by omega)]
  exact toESl l hl l.length 0 _ (by omega) (by simp) (by simp) k hk
theorem eqESl (l : List S89) (hl : l.length ≤ 1048576) (d : Nat) : ∀ (i : Nat), i + d = l.length → ∀ k, d < k → laws_eqConflictEdgeS.l0 k l l i = some true := by
  induction d with
  | zero =>
    intro i hd k hk
    obtain ⟨k, rfl, hk⟩ := fuel hk
    rw [laws_eqConflictEdgeS.l0, if_neg (by omega)]
  | succ d ih =>
    intro i hd k hk
    obtain ⟨k, rfl, hk⟩ := fuel hk
    rw [laws_eqConflictEdgeS.l0, if_pos (by omega), if_pos (by omega), if_pos (by omega), laws_eqConflictEdge.f, if_pos rfl, if_pos rfl, Option.bind_some, if_pos rfl, show wrap64 ((i : Int) + 1) = ((i + 1 : Nat) : Int) by rw [w64 (by omega) (by omega)]; omega]
    exact ih (i + 1) (by omega) k (by omega)
theorem eqES (l : List S89) (hl : l.length ≤ 1048576) (k : Nat) (hk : l.length < k) : laws_eqConflictEdgeS.f k l l = some true := by
  unfold laws_eqConflictEdgeS.f
  rw [if_pos rfl]
  exact eqESl l hl l.length 0 (by omega) k hk

theorem in1 (x a b : Int) : spec_l1In.f x a b = some (decide (a ≤ x ∧ x ≤ b)) := by
  unfold spec_l1In.f
  by_cases h : a ≤ x
  · rw [if_pos h]; simp [h]
  · rw [if_neg h]; simp [h]
theorem wi1 (x a b : Int) : impl_within.f x a b = some (decide (a ≤ x ∧ x ≤ b)) := by
  unfold impl_within.f
  by_cases h : a ≤ x
  · rw [if_pos h]; simp [h]
  · rw [if_neg h]; simp [h]

/-! ### valid edges -/
theorem wm1 (a : Int) (h : (Lit.int .i64 a).wf = true) : wrap64 (a - 1) = a - 1 ∨ a < 0 := by
  have := wfb h
  by_cases c : a = -9223372036854775808
  · exact .inr (by omega)
  · exact .inl (w64 (by omega) (by omega))
def okE (n : Int) (l : List S89) (i : Nat) : Bool := decide ((0 ≤ (rd_T89 l i).f0 ∧ (rd_T89 l i).f0 < (rd_T89 l i).f1 ∧ (rd_T89 l i).f1 < n) ∧ (0 < i → (rd_T89 l ((i : Int) - 1)).f0 < (rd_T89 l i).f0 ∨ ((rd_T89 l ((i : Int) - 1)).f0 = (rd_T89 l i).f0 ∧ (rd_T89 l ((i : Int) - 1)).f1 < (rd_T89 l i).f1)))
def okEs (n : Int) (l : List S89) : Nat → Nat → Bool
  | 0, _ => true
  | d + 1, i => okE n l i && okEs n l d (i + 1)
theorem veSl (n : Int) (hn : (Lit.int .i64 n).wf = true) (l : List S89) (hl : l.length ≤ 1048576) (hg : ∀ y ∈ l, (Lit.int .i64 y.f1).wf = true) (d : Nat) : ∀ (i : Nat), i + d = l.length → ∀ k, d < k → spec_AreValidEdges.l0 k n l i = some (decide (0 ≤ n ∧ n ≤ 14) && okEs n l d i) := by
  induction d with
  | zero =>
    intro i hd k hk
    obtain ⟨k, rfl, hk⟩ := fuel hk
    rw [spec_AreValidEdges.l0, if_neg (by omega), in1, Option.bind_some, okEs, Bool.and_true]
  | succ d ih =>
    intro i hd k hk
    obtain ⟨k, rfl, hk⟩ := fuel hk
    have e1 : wrap64 ((i : Int) + 1) = ((i + 1 : Nat) : Int) := by rw [w64 (by omega) (by omega)]; omega
    have e2 : wrap64 ((i : Int) - 1) = (i : Int) - 1 := w64 (by omega) (by omega)
    have e3 := wm1 _ hn
    have e4 : wrap64 ((rd_T89 l i).f1 - 1) = (rd_T89 l i).f1 - 1 ∨ (rd_T89 l i).f1 < 0 := by
      refine wm1 _ ?_
      unfold rd_T89
      rw [Int.toNat_natCast, getD_lt _ _ i (by omega)]
      exact hg _ (List.getElem_mem _)
    rw [spec_AreValidEdges.l0, if_pos (by omega), if_pos (by omega), in1, Option.bind_some, in1, Option.bind_some, e1, e2, ih (i + 1) (by omega) k (by omega), okEs]
    cases hc : okE n l i
    · have hc := of_decide_eq_false hc
      rw [Bool.false_and, Bool.and_false]
      repeat' split
      all_goals first | rfl | (simp only [decide_eq_true_eq] at *; exfalso; omega) | (simp only [decide_eq_true_eq] at *; rw [decide_eq_false (by omega), Bool.false_and])
    · have hc := of_decide_eq_true hc
      rw [Bool.true_and]
      repeat' split
      all_goals first | rfl | (simp only [decide_eq_true_eq] at *; exfalso; omega) | (simp only [decide_eq_true_eq] at *; rw [decide_eq_false (by omega), Bool.false_and])
theorem veIl (n : Int) (l : List S89) (hl : l.length ≤ 1048576) (d : Nat) : ∀ (i : Nat), i + d = l.length → ∀ k, d < k → impl_AreValidEdges.l0 k n l l l.length i = some (okEs n l d i) := by
  induction d with
  | zero =>
    intro i hd k hk
    obtain ⟨k, rfl, hk⟩ := fuel hk
    rw [impl_AreValidEdges.l0, if_neg (by omega), okEs]
  | succ d ih =>
    intro i hd k hk
    obtain ⟨k, rfl, hk⟩ := fuel hk
    have e1 : wrap64 ((i : Int) + 1) = ((i + 1 : Nat) : Int) := by rw [w64 (by omega) (by omega)]; omega
    have e2 : wrap64 ((i : Int) - 1) = (i : Int) - 1 := w64 (by omega) (by omega)
    rw [impl_AreValidEdges.l0, if_pos (by omega), if_pos (by omega), if_pos (by omega), e1, e2, ih (i + 1) (by omega) k (by omega), okEs]
    cases hc : okE n l i
    · have hc := of_decide_eq_false hc
      rw [Bool.false_and]
      repeat' split
      all_goals first | rfl | (exfalso; omega)
    · have hc := of_decide_eq_true hc
      rw [Bool.true_and]
      repeat' split
      all_goals first | rfl | (exfalso; omega)
def vEs (n : Int) (l : List S89) : Bool := decide (0 ≤ n ∧ n ≤ 14) && okEs n l l.length 0
theorem veS (n : Int) (hn : (Lit.int .i64 n).wf = true) (l : List S89) (hl : l.length ≤ 1048576) (hg : ∀ y ∈ l, (Lit.int .i64 y.f1).wf = true) (k : Nat) (hk : l.length < k) : spec_AreValidEdges.f k n l = some (vEs n l) := by
  unfold spec_AreValidEdges.f vEs
  exact veSl n hn l hl hg l.length 0 (by omega) k hk
theorem veI (n : Int) (l : List S89) (hl : l.length ≤ 1048576) (k : Nat) (hk : l.length < k) : impl_AreValidEdges.f k n l = some (vEs n l) := by
  unfold impl_AreValidEdges.f vEs
  rw [wi1, Option.bind_some]
  by_cases h : 0 ≤ n ∧ n ≤ 14
  · rw [decide_eq_true h, if_pos rfl, Bool.true_and]
    exact veIl n l hl l.length 0 (by omega) k hk
  · rw [decide_eq_false h, if_neg (by decide), Bool.false_and]

/-! ### independent sets -/
theorem l7l (x : List Int) (v : Int) (hx : x.length ≤ 1048600) (d : Nat) : ∀ (i : Nat), i + d = x.length → ∀ k, d < k → spec_l7Has.l0 k x v i = some (decide (idxW (fun y => v == y) (x.drop i) i ≥ 0)) := by
  induction d with
  | zero =>
    intro i hd k hk
    obtain ⟨k, rfl, hk⟩ := fuel hk
    rw [spec_l7Has.l0, if_neg (by omega), List.drop_of_length_le (by omega)]
    rfl
  | succ d ih =>
    intro i hd k hk
    obtain ⟨k, rfl, hk⟩ := fuel hk
    rw [spec_l7Has.l0, if_pos (by omega), if_pos (by omega), List.drop_eq_getElem_cons (i := i) (l := x) (by omega), idxW]
    have e1 : rd x (i : Int) = x[i] := by unfold rd; rw [Int.toNat_natCast, getD_lt x _ i (by omega)]
    rw [e1, show wrap64 ((i : Int) + 1) = ((i + 1 : Nat) : Int) by rw [w64 (by omega) (by omega)]; omega]
    by_cases h : x[i] = v
    · rw [if_pos h, if_pos (by simp [h]), decide_eq_true (by omega)]
    · rw [if_neg h, if_neg (by simpa using fun e => h e.symm), ih (i + 1) (by omega) k (by omega)]
      rfl
theorem l7S (x : List Int) (v : Int) (hx : x.length ≤ 1048600) (k : Nat) (hk : x.length < k) : spec_l7Has.f k x v = some (hasV x v) := by
  unfold spec_l7Has.f hasV
  exact l7l x v hx x.length 0 (by omega) k hk
theorem indl (l : List S89) (hl : l.length ≤ 1048576) (s : List Int) (hs : s.length ≤ 1048600) (d : Nat) : ∀ (i : Nat), i + d = l.length → ∀ k, d + 1048600 < k → spec_IsIndependent.l0 k l s i = some (!decide (idxW (badE s) (l.drop i) i ≥ 0)) := by
  induction d with
  | zero =>
    intro i hd k hk
    obtain ⟨k, rfl, hk⟩ := fuel hk
    rw [spec_IsIndependent.l0, if_neg (by omega), List.drop_of_length_le (by omega)]
    rfl
  | succ d ih =>
    intro i hd k hk
    obtain ⟨k, rfl, hk⟩ := fuel hk
    rw [spec_IsIndependent.l0, if_pos (by omega), if_pos (by omega), l7S s _ hs k (by omega), Option.bind_some, List.drop_eq_getElem_cons (i := i) (l := l) (by omega), idxW, l7S s _ hs k (by omega), Option.bind_some]
    unfold rd_T89 badE
    rw [Int.toNat_natCast, getD_lt l _ i (by omega), show wrap64 ((i : Int) + 1) = ((i + 1 : Nat) : Int) by rw [w64 (by omega) (by omega)]; omega, ih (i + 1) (by omega) k (by omega)]
    by_cases h0 : hasV s l[i].f0 = true
    · by_cases h1 : hasV s l[i].f1 = true
      · rw [if_pos h0, if_pos h1, if_pos (by rw [h0, h1]; rfl), decide_eq_true (by omega)]
        rfl
      · rw [if_pos h0, if_neg h1, if_neg (by rw [Bool.and_eq_true]; exact fun e => h1 e.2)]
        unfold badE
        rfl
    · rw [if_neg h0, if_neg (by rw [Bool.and_eq_true]; exact fun e => h0 e.1)]
      unfold badE
      rfl
theorem indS (l : List S89) (hl : l.length ≤ 1048576) (s : List Int) (hs : s.length ≤ 1048600) (k : Nat) (hk : 2200000 < k) : spec_IsIndependent.f k l s = some (!decide (idxW (badE s) l 0 ≥ 0)) := by
  unfold spec_IsIndependent.f
  exact indl l hl s hs l.length 0 (by omega) k (by omega)

/-! ### sets of places, and maximal ones -/
theorem rdD (xs : List Int) (i : Nat) : rd xs (i : Int) = xs.getD i 0 := by unfold rd; rw [Int.toNat_natCast]
def okA (xs : List Int) (n : Int) (i : Nat) : Bool := decide ((0 ≤ rd xs i ∧ rd xs i < n) ∧ (0 < i → rd xs ((i : Int) - 1) < rd xs i))
def okAs (xs : List Int) (n : Int) : Nat → Nat → Bool
  | 0, _ => true
  | d + 1, i => okA xs n i && okAs xs n d (i + 1)
theorem asl (n : Int) (h0 : 0 ≤ n) (h1 : n ≤ 14) (xs : List Int) (hx : xs.length ≤ 1048576) (d : Nat) : ∀ (i : Nat), i + d = xs.length → ∀ k, d < k → spec_l8Set.l0 k n xs i = some (okAs xs n d i) ∧ impl_areIndices.l0 k xs n xs xs.length i = some (okAs xs n d i) := by
  induction d with
  | zero =>
    intro i hd k hk
    obtain ⟨k, rfl, hk⟩ := fuel hk
    rw [spec_l8Set.l0, if_neg (by omega), impl_areIndices.l0, if_neg (by omega), okAs]
    exact ⟨rfl, rfl⟩
  | succ d ih =>
    intro i hd k hk
    obtain ⟨k, rfl, hk⟩ := fuel hk
    have e1 : wrap64 ((i : Int) + 1) = ((i + 1 : Nat) : Int) := by rw [w64 (by omega) (by omega)]; omega
    have e2 : wrap64 ((i : Int) - 1) = (i : Int) - 1 := w64 (by omega) (by omega)
    have e3 : wrap64 (n - 1) = n - 1 := w64 (by omega) (by omega)
    obtain ⟨i1, i2⟩ := ih (i + 1) (by omega) k (by omega)
    constructor
    · rw [spec_l8Set.l0, if_pos (by omega), if_pos (by omega), in1, Option.bind_some, e1, e2, e3, i1, okAs]
      cases hc : okA xs n i
      · have hc := of_decide_eq_false hc
        rw [Bool.false_and]
        repeat' split
        all_goals first | rfl | (exfalso; omega) | (simp only [decide_eq_true_eq] at *; exfalso; omega)
      · have hc := of_decide_eq_true hc
        rw [Bool.true_and]
        repeat' split
        all_goals first | rfl | (exfalso; omega) | (simp only [decide_eq_true_eq] at *; exfalso; omega)
    · rw [impl_areIndices.l0, if_pos (by omega), if_pos (by omega), if_pos (by omega), wi1, Option.bind_some, e1, e2, e3, i2, okAs]
      cases hc : okA xs n i
      · have hc := of_decide_eq_false hc
        rw [Bool.false_and]
        repeat' split
        all_goals first | rfl | (exfalso; omega) | (simp only [decide_eq_true_eq] at *; exfalso; omega)
      · have hc := of_decide_eq_true hc
        rw [Bool.true_and]
        repeat' split
        all_goals first | rfl | (exfalso; omega) | (simp only [decide_eq_true_eq] at *; exfalso; omega)
theorem ixCl (b : List Int) (x : Int) (hb : b.length ≤ 1048576) (d : Nat) : ∀ (j : Nat), j + d = b.length → ∀ k, d < k → slices_Index_int_int.l0 k b x b.length j = some (idxW (fun y => x == y) (b.drop j) j) := by
  induction d with
  | zero =>
    intro j hd k hk
    obtain ⟨k, rfl, hk⟩ := fuel hk
    rw [slices_Index_int_int.l0, if_neg (by omega), List.drop_eq_nil_of_le (by omega), idxW]
  | succ d ih =>
    intro j hd k hk
    obtain ⟨k, rfl, hk⟩ := fuel hk
    have hr : rd b (j : Int) = b[j] := by unfold rd; rw [Int.toNat_natCast, getD_lt _ _ j (by omega)]
    rw [slices_Index_int_int.l0, if_pos (by omega), if_pos (by omega), if_pos (by omega), hr, List.drop_eq_getElem_cons (by omega), idxW]
    by_cases h : x = b[j]
    · rw [if_pos h, if_pos (by simpa using h)]
    · rw [if_neg h, if_neg (by simpa using h), show wrap64 ((j : Int) + 1) = ((j + 1 : Nat) : Int) by rw [w64 (by omega) (by omega)]; omega, ih (j + 1) (by omega) k (by omega)]
      rfl
theorem ctI (b : List Int) (x : Int) (hb : b.length ≤ 1048576) (k : Nat) (hk : b.length < k) : slices_Contains_int_int.f k b x = some (hasV b x) := by
  unfold slices_Contains_int_int.f slices_Index_int_int.f hasV
  have h1 := ixCl b x hb b.length 0 (by omega) k hk
  rw [show (0 : Int) = ((0 : Nat) : Int) from rfl, h1, Option.bind_some]
  rfl
theorem fitsS (l : List S89) (hl : l.length ≤ 1048576) (s : List Int) (hs : s.length ≤ 1048576) (v : Int) (k : Nat) (hk : 2200000 < k) : spec_l8Fits.f k l s v = some (!hasV s v && !decide (idxW (badE (s ++ [v])) l 0 ≥ 0)) := by
  unfold spec_l8Fits.f
  rw [l7S s _ (by omega) k (by omega), Option.bind_some]
  by_cases h : hasV s v = true
  · rw [if_pos h, h]; rfl
  · rw [if_neg h, Option.bind_some, if_pos (by simp only [List.length_nil]; omega), Option.bind_some, List.nil_append, if_pos (by omega), indS l hl _ (by rw [List.length_append]; simp only [List.length_cons, List.length_nil]; omega) k hk, Option.bind_some, Bool.eq_false_iff.2 h]
    rfl
def maxW (l : List S89) (s : List Int) : Nat → Nat → Bool
  | 0, _ => true
  | d + 1, i => if (!hasV s i && !decide (idxW (badE (s ++ [(i : Int)])) l 0 ≥ 0)) = true then false else maxW l s d (i + 1)
theorem maxl (l : List S89) (hl : l.length ≤ 1048576) (s : List Int) (hs : s.length ≤ 1048576) (n : Nat) (hn : n ≤ 14) (d : Nat) : ∀ (i : Nat), i + d = n → ∀ k, d + 2200000 < k → spec_IsMaximalIndependent.l0 k n l s i = some (maxW l s d i) ∧ impl_IsMaximalIndependent.l0 k l s n i = some (maxW l s d i) := by
  induction d with
  | zero =>
    intro i hd k hk
    obtain ⟨k, rfl, hk⟩ := fuel hk
    rw [spec_IsMaximalIndependent.l0, if_neg (by omega), impl_IsMaximalIndependent.l0, if_neg (by omega), maxW]
    exact ⟨rfl, rfl⟩
  | succ d ih =>
    intro i hd k hk
    obtain ⟨k, rfl, hk⟩ := fuel hk
    have e1 : wrap64 ((i : Int) + 1) = ((i + 1 : Nat) : Int) := by rw [w64 (by omega) (by omega)]; omega
    obtain ⟨i1, i2⟩ := ih (i + 1) (by omega) k (by omega)
    constructor
    · rw [spec_IsMaximalIndependent.l0, if_pos (by omega), fitsS l hl s hs _ k (by omega), Option.bind_some, e1, i1, maxW]
      split
      · rfl
      · rfl
    · rw [impl_IsMaximalIndependent.l0, if_pos (by omega), ctI s _ hs k (by omega), Option.bind_some, e1, i2, maxW]
      by_cases h : hasV s i = true
      · rw [if_pos h, if_neg (by rw [h]; simp)]
      · have hf := Bool.eq_false_iff.2 h
        rw [if_neg h, slices_Clone_int_int.f, Option.bind_some, if_pos (by simp only [List.length_nil]; omega), Option.bind_some, List.nil_append, if_pos (by omega), impl_IsIndependent.f, Option.bind_some, hf]
        by_cases g : (!decide (idxW (badE (s ++ [(i : Int)])) l 0 ≥ 0)) = true
        · rw [g]
          rfl
        · rw [Bool.eq_false_iff.2 g]
          rfl
theorem maxB (n : Int) (hn : (Lit.int .i64 n).wf = true) (l : List S89) (hl : l.length ≤ 1048576) (hg : ∀ y ∈ l, (Lit.int .i64 y.f1).wf = true) (s : List Int) (hs : s.length ≤ 1048576) (k : Nat) (hk : 2300000 < k) : ∃ b, spec_IsMaximalIndependent.f k n l s = some b ∧ impl_IsMaximalIndependent.f k n l s = some b := by
  unfold spec_IsMaximalIndependent.f impl_IsMaximalIndependent.f impl_isIndependentSet.f
  rw [veS n hn l hl hg k (by omega), veI n l hl k (by omega), Option.bind_some, Option.bind_some]
  obtain ⟨k', e⟩ : ∃ z, k = z + 1 := ⟨k - 1, by omega⟩
  have hj : ∀ b, b = true → spec_IsMaximalIndependent.j0 k n l s b = some false := by
    intro b hb; rw [e, spec_IsMaximalIndependent.j0, if_pos hb]
  by_cases h : vEs n l = true
  · rw [if_pos h, if_pos h]
    have hn : 0 ≤ n ∧ n ≤ 14 := of_decide_eq_true (by unfold vEs at h; rw [Bool.and_eq_true] at h; exact h.1)
    obtain ⟨a1, a2⟩ := asl n hn.1 hn.2 s hs s.length 0 (by omega) k (by omega)
    unfold spec_l8Set.f impl_areIndices.f
    rw [show (0 : Int) = ((0 : Nat) : Int) from rfl, a1, a2, Option.bind_some, Option.bind_some]
    by_cases ha : okAs s n s.length 0 = true
    · rw [if_pos ha, if_pos ha, indS l hl s (by omega) k (by omega), impl_IsIndependent.f, Option.bind_some, Option.bind_some, Option.bind_some]
      by_cases g : (!decide (idxW (badE s) l 0 ≥ 0)) = true
      · rw [if_pos g]
        have b1 := (maxl l hl s hs n.toNat (by omega) n.toNat 0 (by omega) k' (by omega)).1
        have b2 := (maxl l hl s hs n.toNat (by omega) n.toNat 0 (by omega) k (by omega)).2
        rw [show ((n.toNat : Nat) : Int) = n by omega] at b1 b2
        refine ⟨_, ?_, b2⟩
        rw [e, spec_IsMaximalIndependent.j0, g, if_neg (by decide)]
        exact b1
      · rw [if_neg g]
        exact ⟨false, hj _ (by rw [Bool.not_eq_true] at g; rw [g]; rfl), rfl⟩
    · rw [if_neg ha, if_neg ha, Option.bind_some]
      exact ⟨false, hj _ rfl, rfl⟩
  · rw [if_neg h, if_neg h, Option.bind_some]
    exact ⟨false, hj _ rfl, rfl⟩


theorem FnExactIsMaximalIndependent : FnExactIsMaximalIndependentPure := by
  intro m l s hn hl hs
  by_cases hc : (s.length : Int) > 1048576
  · refine ⟨0, ?_⟩
    unfold laws_FnExactIsMaximalIndependent.f
    rw [if_pos hc]
  have hsl : s.length ≤ 1048576 := by omega
  obtain ⟨r, h1, h2, h3, h4⟩ := szES l 1048576 hl.1 (by omega) (by omega)
  by_cases hr : r < 0
  · refine ⟨0, ?_⟩
    unfold laws_FnExactIsMaximalIndependent.f
    rw [if_neg hc, h1, Option.bind_some, if_pos hr]
  have hl' : l.length ≤ 1048576 := by have := h4 (by omega); omega
  have hm : (l.map cvE).length = l.length := by simp
  have hg : ∀ y ∈ l.map cvE, (Lit.int .i64 y.f1).wf = true := by
    intro y hy
    obtain ⟨z, hz, rfl⟩ := List.mem_map.1 hy
    exact (hl.2 z hz).2
  refine ⟨3000001, ?_⟩
  generalize hk : (3000001 : Nat) = k
  obtain ⟨b, b1, b2⟩ := maxB m hn (l.map cvE) (by omega) hg s hsl k (by omega)
  unfold laws_FnExactIsMaximalIndependent.f
  rw [if_neg hc, h1, Option.bind_some, if_neg hr, toES l hl' _ (by omega), toI _ hsl _ (by omega)]
  simp only [Option.bind_some]
  rw [b1, b2]
  simp only [Option.bind_some]
  rw [if_neg (by simp), eqES _ (by omega) _ (by omega), eqI _ hsl _ (by omega)]
  simp

end Go.Proofs.Ytddeflhambegiaa.Pure
