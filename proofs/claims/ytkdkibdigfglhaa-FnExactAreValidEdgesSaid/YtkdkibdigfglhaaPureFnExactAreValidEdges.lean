/- The law FnExactAreValidEdges answers true for every number and edges that the row admits: both texts answer alike, and the arguments are left as they were. -/
import Derived.Test.YtkdkibdigfglhaaGFnExactAreValidEdges
import Derived.Test.YtkdkibdigfglhaaBase
namespace Go.Proofs.Ytkdkibdigfglhaa.Pure
open Go.RowKit Go.Proofs.Ytkdkibdigfglhaa.PFnExactAreValidEdges Go.Proofs.YtkdkibdigfglhaaW.PrintWords Go.Proofs.YtkdkibdigfglhaaW.PrintLast Go.Proofs.YtkdkibdigfglhaaW.PrintMore Go.Proofs.Ytkdkibdigfglhaa.Base
set_option linter.unusedVariables false
set_option linter.unusedSimpArgs false

/-! ### edges: what the laws' own functions on them come to -/
def cvE (x : S72) : S70 := ⟨x.f0, x.f1⟩
theorem szES (l : List S72) (v : Int) (hl : l.length ≤ maxLen) (hv : 0 ≤ v) (hv1 : v ≤ 1048576) : ∃ r, laws_szConflictEdgeS.f l v = some r ∧ r ≤ v ∧ -1 ≤ r ∧ (0 ≤ r → (l.length : Int) ≤ v) := by
  unfold maxLen at hl
  unfold laws_szConflictEdgeS.f
  rw [w64 (by omega) (by omega)]
  by_cases h : v - (l.length : Int) < 0
  · exact ⟨-1, if_pos h, by omega, by omega, fun h => absurd h (by decide)⟩
  · exact ⟨_, if_neg h, by omega, by omega, fun _ => by omega⟩
theorem toESl (l : List S72) (hl : l.length ≤ 1048576) (d : Nat) : ∀ (i : Nat) (xs : List S70), i + d = l.length → xs.length = l.length → xs.take i = (l.take i).map cvE → ∀ k, d < k → laws_toConflictEdgeS.l0 k l xs i = some (l.map cvE) := by
  induction d with
  | zero =>
    intro i xs hd hx ht k hk
    obtain ⟨k, rfl, hk⟩ := fuel hk
    rw [laws_toConflictEdgeS.l0, if_neg (by omega)]
    rw [List.take_of_length_le (by omega), List.take_of_length_le (by omega)] at ht
    rw [ht]
  | succ d ih =>
    intro i xs hd hx ht k hk
    obtain ⟨k, rfl, hk⟩ := fuel hk
    rw [laws_toConflictEdgeS.l0, if_pos (by omega), if_pos (by omega), laws_toConflictEdge.f, Option.bind_some, if_pos (by omega), show wrap64 ((i : Int) + 1) = ((i + 1 : Nat) : Int) by rw [w64 (by omega) (by omega)]; omega]
    refine ih (i + 1) _ (by omega) (by simpa using hx) ?_ k (by omega)
    rw [Int.toNat_natCast, take_set_succ _ _ _ (by omega), take_map_succ cvE z72 l i (by omega), ht]
    rfl
theorem toES (l : List S72) (hl : l.length ≤ 1048576) (k : Nat) (hk : l.length < k) : laws_toConflictEdgeS.f k l = some (l.map cvE) := by
  unfold laws_toConflictEdgeS.f
  rw [if_pos (by omega), Int.toNat_natCast, if_pos (by omega)]
  exact toESl l hl l.length 0 _ (by omega) (by simp) (by simp) k hk
theorem eqESl (l : List S70) (hl : l.length ≤ 1048576) (d : Nat) : ∀ (i : Nat), i + d = l.length → ∀ k, d < k → laws_eqConflictEdgeS.l0 k l l i = some true := by
  induction d with
  | zero =>
    intro i hd k hk
    obtain ⟨k, rfl, hk⟩ := fuel hk
    rw [laws_eqConflictEdgeS.l0, if_neg (by omega)]
  | succ d ih =>
    intro i hd k hk
    obtain ⟨k, rfl, hk⟩ := fuel hk
    rw [laws_eqConflictEdgeS.l0, if_pos (by omega), if_pos (by omega), if_pos (by omega), laws_eqConflictEdge.f, if_pos rfl, if_pos rfl, Option.bind_some, if_pos rfl, show wrap64 ((i : Int) + 1) = ((i + 1 : Nat) : Int) by rw [w64 (by omega) (by omega)]; omega]
    exact ih (i + 1) (by omega) k (by omega)
theorem eqES (l : List S70) (hl : l.length ≤ 1048576) (k : Nat) (hk : l.length < k) : laws_eqConflictEdgeS.f k l l = some true := by
  unfold laws_eqConflictEdgeS.f
  rw [if_pos rfl]
  exact eqESl l hl l.length 0 (by omega) k hk

theorem in1 (x a b : Int) : spec_l1In.f x a b = some (decide (a ≤ x ∧ x ≤ b)) := by
  unfold spec_l1In.f
  by_cases h : a ≤ x
  · rw [if_pos h]; simp [h]
  · rw [if_neg h]; simp [h]
theorem wi1 (x a b : Int) : impl_within.f x a b = some (decide (a ≤ x ∧ x ≤ b)) := by
  unfold impl_within.f
  by_cases h : a ≤ x
  · rw [if_pos h]; simp [h]
  · rw [if_neg h]; simp [h]

/-! ### valid edges -/
theorem wm1 (a : Int) (h : (Lit.int .i64 a).wf = true) : wrap64 (a - 1) = a - 1 ∨ a < 0 := by
  have := wfb h
  by_cases c : a = -9223372036854775808
  · exact .inr (by omega)
  · exact .inl (w64 (by omega) (by omega))
def okE (n : Int) (l : List S70) (i : Nat) : Bool := decide ((0 ≤ (rd_T70 l i).f0 ∧ (rd_T70 l i).f0 < (rd_T70 l i).f1 ∧ (rd_T70 l i).f1 < n) ∧ (0 < i → (rd_T70 l ((i : Int) - 1)).f0 < (rd_T70 l i).f0 ∨ ((rd_T70 l ((i : Int) - 1)).f0 = (rd_T70 l i).f0 ∧ (rd_T70 l ((i : Int) - 1)).f1 < (rd_T70 l i).f1)))
def okEs (n : Int) (l : List S70) : Nat → Nat → Bool
  | 0, _ => true
  | d + 1, i => okE n l i && okEs n l d (i + 1)
theorem veSl (n : Int) (hn : (Lit.int .i64 n).wf = true) (l : List S70) (hl : l.length ≤ 1048576) (hg : ∀ y ∈ l, (Lit.int .i64 y.f1).wf = true) (d : Nat) : ∀ (i : Nat), i + d = l.length → ∀ k, d < k → spec_AreValidEdges.l0 k n l i = some (decide (0 ≤ n ∧ n ≤ 14) && okEs n l d i) := by
  induction d with
  | zero =>
    intro i hd k hk
    obtain ⟨k, rfl, hk⟩ := fuel hk
    rw [spec_AreValidEdges.l0, if_neg (by omega), in1, Option.bind_some, okEs, Bool.and_true]
  | succ d ih =>
    intro i hd k hk
    obtain ⟨k, rfl, hk⟩ := fuel hk
    have e1 : wrap64 ((i : Int) + 1) = ((i + 1 : Nat) : Int) := by rw [w64 (by omega) (by omega)]; omega
    have e2 : wrap64 ((i : Int) - 1) = (i : Int) - 1 := w64 (by omega) (by omega)
    have e3 := wm1 _ hn
    have e4 : wrap64 ((rd_T70 l i).f1 - 1) = (rd_T70 l i).f1 - 1 ∨ (rd_T70 l i).f1 < 0 := by
      refine wm1 _ ?_
      unfold rd_T70
      rw [Int.toNat_natCast, getD_lt _ _ i (by omega)]
      exact hg _ (List.getElem_mem _)
    rw [spec_AreValidEdges.l0, if_pos (by omega), if_pos (by omega), in1, Option.bind_some, in1, Option.bind_some, e1, e2, ih (i + 1) (by omega) k (by omega), okEs]
    cases hc : okE n l i
    · have hc := of_decide_eq_false hc
      rw [Bool.false_and, Bool.and_false]
      repeat' split
      all_goals first | rfl | (simp only [decide_eq_true_eq] at *; exfalso; omega) | (simp only [decide_eq_true_eq] at *; rw [decide_eq_false (by omega), Bool.false_and])
    · have hc := of_decide_eq_true hc
      rw [Bool.true_and]
      repeat' split
      all_goals first | rfl | (simp only [decide_eq_true_eq] at *; exfalso; omega) | (simp only [decide_eq_true_eq] at *; rw [decide_eq_false (by omega), Bool.false_and])
theorem veIl (n : Int) (l : List S70) (hl : l.length ≤ 1048576) (d : Nat) : ∀ (i : Nat), i + d = l.length → ∀ k, d < k → impl_AreValidEdges.l0 k n l l l.length i = some (okEs n l d i) := by
  induction d with
  | zero =>
    intro i hd k hk
    obtain ⟨k, rfl, hk⟩ := fuel hk
    rw [impl_AreValidEdges.l0, if_neg (by omega), okEs]
  | succ d ih =>
    intro i hd k hk
    obtain ⟨k, rfl, hk⟩ := fuel hk
    have e1 : wrap64 ((i : Int) + 1) = ((i + 1 : Nat) : Int) := by rw [w64 (by omega) (by omega)]; omega
    have e2 : wrap64 ((i : Int) - 1) = (i : Int) - 1 := w64 (by omega) (by omega)
    rw [impl_AreValidEdges.l0, if_pos (by omega), if_pos (by omega), if_pos (by omega), e1, e2, ih (i + 1) (by omega) k (by omega), okEs]
    cases hc : okE n l i
    · have hc := of_decide_eq_false hc
      rw [Bool.false_and]
      repeat' split
      all_goals first | rfl | (exfalso; omega)
    · have hc := of_decide_eq_true hc
      rw [Bool.true_and]
      repeat' split
      all_goals first | rfl | (exfalso; omega)
def vEs (n : Int) (l : List S70) : Bool := decide (0 ≤ n ∧ n ≤ 14) && okEs n l l.length 0
theorem veS (n : Int) (hn : (Lit.int .i64 n).wf = true) (l : List S70) (hl : l.length ≤ 1048576) (hg : ∀ y ∈ l, (Lit.int .i64 y.f1).wf = true) (k : Nat) (hk : l.length < k) : spec_AreValidEdges.f k n l = some (vEs n l) := by
  unfold spec_AreValidEdges.f vEs
  exact veSl n hn l hl hg l.length 0 (by omega) k hk
theorem veI (n : Int) (l : List S70) (hl : l.length ≤ 1048576) (k : Nat) (hk : l.length < k) : impl_AreValidEdges.f k n l = some (vEs n l) := by
  unfold impl_AreValidEdges.f vEs
  rw [wi1, Option.bind_some]
  by_cases h : 0 ≤ n ∧ n ≤ 14
  · rw [decide_eq_true h, if_pos rfl, Bool.true_and]
    exact veIl n l hl l.length 0 (by omega) k hk
  · rw [decide_eq_false h, if_neg (by decide), Bool.false_and]


theorem FnExactAreValidEdges : FnExactAreValidEdgesPure := by
  intro n l hn hl
  obtain ⟨r, h1, h2, h3, h4⟩ := szES l 1048576 hl.1 (by omega) (by omega)
  by_cases hr : r < 0
  · refine ⟨0, ?_⟩
    unfold laws_FnExactAreValidEdges.f
    rw [h1, Option.bind_some, if_pos hr]
  have hl' : l.length ≤ 1048576 := by have := h4 (by omega); omega
  have hm : (l.map cvE).length = l.length := by simp
  have hg : ∀ y ∈ l.map cvE, (Lit.int .i64 y.f1).wf = true := by
    intro y hy
    obtain ⟨z, hz, rfl⟩ := List.mem_map.1 hy
    exact (hl.2 z hz).2
  refine ⟨3000001, ?_⟩
  generalize hk : (3000001 : Nat) = k
  unfold laws_FnExactAreValidEdges.f
  rw [h1, Option.bind_some, if_neg hr, toES l hl' _ (by omega)]
  simp only [Option.bind_some]
  rw [veS n hn _ (by omega) hg _ (by omega), veI n _ (by omega) _ (by omega)]
  simp only [Option.bind_some]
  rw [if_neg (by simp), eqES _ (by omega) _ (by omega)]
  simp

end Go.Proofs.Ytkdkibdigfglhaa.Pure
