/- The law FnExactIsIndependent answers true for every edges and set that the row admits: both texts answer alike, and the arguments are left as they were. -/
import Derived.Test.YtkdkibdigfglhaaGFnExactIsIndependent
import Derived.Test.YtkdkibdigfglhaaBase
namespace Go.Proofs.Ytkdkibdigfglhaa.Pure
open Go.RowKit Go.Proofs.Ytkdkibdigfglhaa.PFnExactIsIndependent Go.Proofs.YtkdkibdigfglhaaW.PrintWords Go.Proofs.YtkdkibdigfglhaaW.PrintLast Go.Proofs.YtkdkibdigfglhaaW.PrintMore Go.Proofs.Ytkdkibdigfglhaa.Base
set_option linter.unusedVariables false
set_option linter.unusedSimpArgs false

/-! ### lists of numbers: what the laws' own functions on them come to -/
theorem toIl (l : List Int) (hl : l.length ≤ 1048576) (d : Nat) : ∀ (i : Nat) (xs : List Int), (l.length : Int) - i = d → xs.length = l.length → xs.take i = l.take i → ∀ k, d < k → laws_toIntS.l0 k l xs i = some l := by
  induction d with
  | zero =>
    intro i xs hd hx ht k hk
    obtain ⟨k, rfl, hk⟩ := fuel hk
    rw [laws_toIntS.l0, if_neg (by omega)]
    rw [List.take_of_length_le (by omega), List.take_of_length_le (by omega)] at ht
    rw [ht]
  | succ d ih =>
    intro i xs hd hx ht k hk
    obtain ⟨k, rfl, hk⟩ := fuel hk
    rw [laws_toIntS.l0, if_pos (by omega), if_pos (by omega), if_pos (by omega), show wrap64 ((i : Int) + 1) = ((i + 1 : Nat) : Int) by rw [w64 (by omega) (by omega)]; omega]
    refine ih (i + 1) _ (by omega) (by simpa using hx) ?_ k (by omega)
    rw [Int.toNat_natCast, take_set_succ _ _ _ (by omega), ht, List.take_succ_eq_append_getElem (by omega)]
    congr 2
    unfold rd
    rw [Int.toNat_natCast, getD_lt l _ i (by omega)]
theorem toI (l : List Int) (hl : l.length ≤ 1048576) (k : Nat) (hk : l.length < k) : laws_toIntS.f k l = some l := by
  unfold laws_toIntS.f
  rw [if_pos (by omega), Int.toNat_natCast, if_pos (by omega)]
  exact toIl l hl l.length 0 _ (by omega) (by simp) (by simp) k hk
theorem eqIl (l : List Int) (hl : l.length ≤ 1048576) (d : Nat) : ∀ (i : Int), 0 ≤ i → (l.length : Int) - i = d → ∀ k, d < k → laws_eqIntS.l0 k l l i = some true := by
  induction d with
  | zero =>
    intro i h0 hd k hk
    obtain ⟨k, rfl, hk⟩ := fuel hk
    rw [laws_eqIntS.l0, if_neg (by omega)]
  | succ d ih =>
    intro i h0 hd k hk
    obtain ⟨k, rfl, hk⟩ := fuel hk
    rw [laws_eqIntS.l0, if_pos (by omega), if_pos h0, if_pos (by omega), if_pos rfl, w64 (by omega) (by omega)]
    exact ih (i + 1) (by omega) (by omega) k (by omega)
theorem eqI (l : List Int) (hl : l.length ≤ 1048576) (k : Nat) (hk : l.length < k) : laws_eqIntS.f k l l = some true := by
  unfold laws_eqIntS.f
  rw [if_pos rfl]
  exact eqIl l hl l.length 0 (by omega) (by omega) k hk

/-! ### edges: what the laws' own functions on them come to -/
def cvE (x : S72) : S70 := ⟨x.f0, x.f1⟩
theorem szES (l : List S72) (v : Int) (hl : l.length ≤ maxLen) (hv : 0 ≤ v) (hv1 : v ≤ 1048576) : ∃ r, laws_szConflictEdgeS.f l v = some r ∧ r ≤ v ∧ -1 ≤ r ∧ (0 ≤ r → (l.length : Int) ≤ v) := by
  unfold maxLen at hl
  unfold laws_szConflictEdgeS.f
  rw [w64 (by omega) (by omega)]
  by_cases h : v - (l.length : Int) < 0
  · exact ⟨-1, if_pos h, by omega, by omega, fun h => absurd h (by decide)⟩
  · exact ⟨_, if_neg h, by omega, by omega, fun _ => by omega⟩
theorem toESl (l : List S72) (hl : l.length ≤ 1048576) (d : Nat) : ∀ (i : Nat) (xs : List S70), i + d = l.length → xs.length = l.length → xs.take i = (l.take i).map cvE → ∀ k, d < k → laws_toConflictEdgeS.l0 k l xs i = some (l.map cvE) := by
  induction d with
  | zero =>
    intro i xs hd hx ht k hk
    obtain ⟨k, rfl, hk⟩ := fuel hk
    rw [laws_toConflictEdgeS.l0, if_neg (by omega)]
    rw [List.take_of_length_le (by omega), List.take_of_length_le (by omega)] at ht
    rw [ht]
  | succ d ih =>
    intro i xs hd hx ht k hk
    obtain ⟨k, rfl, hk⟩ := fuel hk
    rw [laws_toConflictEdgeS.l0, if_pos (by omega), if_pos (by omega), laws_toConflictEdge.f, Option.bind_some, if_pos (by omega), show wrap64 ((i : Int) + 1) = ((i + 1 : Nat) : Int) by rw [w64 (by omega) (by omega)]; omega]
    refine ih (i + 1) _ (by omega) (by simpa using hx) ?_ k (by omega)
    rw [Int.toNat_natCast, take_set_succ _ _ _ (by omega), take_map_succ cvE z72 l i (by omega), ht]
    rfl
theorem toES (l : List S72) (hl : l.length ≤ 1048576) (k : Nat) (hk : l.length < k) : laws_toConflictEdgeS.f k l = some (l.map cvE) := by
  unfold laws_toConflictEdgeS.f
  rw [if_pos (by omega), Int.toNat_natCast, if_pos (by omega)]
  exact toESl l hl l.length 0 _ (by omega) (by simp) (by simp) k hk
theorem eqESl (l : List S70) (hl : l.length ≤ 1048576) (d : Nat) : ∀ (i : Nat), i + d = l.length → ∀ k, d < k → laws_eqConflictEdgeS.l0 k l l i = some true := by
  induction d with
  | zero =>
    intro i hd k hk
    obtain ⟨k, rfl, hk⟩ := fuel hk
    rw [laws_eqConflictEdgeS.l0, if_neg (by omega)]
  | succ d ih =>
    intro i hd k hk
    obtain ⟨k, rfl, hk⟩ := fuel hk
    rw [laws_eqConflictEdgeS.l0, if_pos (by omega), if_pos (by omega), if_pos (by omega), laws_eqConflictEdge.f, if_pos rfl, if_pos rfl, Option.bind_some, if_pos rfl, show wrap64 ((i : Int) + 1) = ((i + 1 : Nat) : Int) by rw [w64 (by omega) (by omega)]; omega]
    exact ih (i + 1) (by omega) k (by omega)
theorem eqES (l : List S70) (hl : l.length ≤ 1048576) (k : Nat) (hk : l.length < k) : laws_eqConflictEdgeS.f k l l = some true := by
  unfold laws_eqConflictEdgeS.f
  rw [if_pos rfl]
  exact eqESl l hl l.length 0 (by omega) k hk

/-! ### independent sets -/
theorem l7l (x : List Int) (v : Int) (hx : x.length ≤ 1048600) (d : Nat) : ∀ (i : Nat), i + d = x.length → ∀ k, d < k → spec_l7Has.l0 k x v i = some (decide (idxW (fun y => v == y) (x.drop i) i ≥ 0)) := by
  induction d with
  | zero =>
    intro i hd k hk
    obtain ⟨k, rfl, hk⟩ := fuel hk
    rw [spec_l7Has.l0, if_neg (by omega), List.drop_of_length_le (by omega)]
    rfl
  | succ d ih =>
    intro i hd k hk
    obtain ⟨k, rfl, hk⟩ := fuel hk
    rw [spec_l7Has.l0, if_pos (by omega), if_pos (by omega), List.drop_eq_getElem_cons (i := i) (l := x) (by omega), idxW]
    have e1 : rd x (i : Int) = x[i] := by unfold rd; rw [Int.toNat_natCast, getD_lt x _ i (by omega)]
    rw [e1, show wrap64 ((i : Int) + 1) = ((i + 1 : Nat) : Int) by rw [w64 (by omega) (by omega)]; omega]
    by_cases h : x[i] = v
    · rw [if_pos h, if_pos (by simp [h]), decide_eq_true (by omega)]
    · rw [if_neg h, if_neg (by simpa using fun e => h e.symm), ih (i + 1) (by omega) k (by omega)]
      rfl
theorem l7S (x : List Int) (v : Int) (hx : x.length ≤ 1048600) (k : Nat) (hk : x.length < k) : spec_l7Has.f k x v = some (hasV x v) := by
  unfold spec_l7Has.f hasV
  exact l7l x v hx x.length 0 (by omega) k hk
theorem indl (l : List S70) (hl : l.length ≤ 1048576) (s : List Int) (hs : s.length ≤ 1048600) (d : Nat) : ∀ (i : Nat), i + d = l.length → ∀ k, d + 1048600 < k → spec_IsIndependent.l0 k l s i = some (!decide (idxW (badE s) (l.drop i) i ≥ 0)) := by
  induction d with
  | zero =>
    intro i hd k hk
    obtain ⟨k, rfl, hk⟩ := fuel hk
    rw [spec_IsIndependent.l0, if_neg (by omega), List.drop_of_length_le (by omega)]
    rfl
  | succ d ih =>
    intro i hd k hk
    obtain ⟨k, rfl, hk⟩ := fuel hk
    rw [spec_IsIndependent.l0, if_pos (by omega), if_pos (by omega), l7S s _ hs k (by omega), Option.bind_some, List.drop_eq_getElem_cons (i := i) (l := l) (by omega), idxW, l7S s _ hs k (by omega), Option.bind_some]
    unfold rd_T70 badE
    rw [Int.toNat_natCast, getD_lt l _ i (by omega), show wrap64 ((i : Int) + 1) = ((i + 1 : Nat) : Int) by rw [w64 (by omega) (by omega)]; omega, ih (i + 1) (by omega) k (by omega)]
    by_cases h0 : hasV s l[i].f0 = true
    · by_cases h1 : hasV s l[i].f1 = true
      · rw [if_pos h0, if_pos h1, if_pos (by rw [h0, h1]; rfl), decide_eq_true (by omega)]
        rfl
      · rw [if_pos h0, if_neg h1, if_neg (by rw [Bool.and_eq_true]; exact fun e => h1 e.2)]
        unfold badE
        rfl
    · rw [if_neg h0, if_neg (by rw [Bool.and_eq_true]; exact fun e => h0 e.1)]
      unfold badE
      rfl
theorem indS (l : List S70) (hl : l.length ≤ 1048576) (s : List Int) (hs : s.length ≤ 1048600) (k : Nat) (hk : 2200000 < k) : spec_IsIndependent.f k l s = some (!decide (idxW (badE s) l 0 ≥ 0)) := by
  unfold spec_IsIndependent.f
  exact indl l hl s hs l.length 0 (by omega) k (by omega)


theorem FnExactIsIndependent : FnExactIsIndependentPure := by
  intro l s hl hs
  by_cases hn : (s.length : Int) > 1048576
  · refine ⟨0, ?_⟩
    unfold laws_FnExactIsIndependent.f
    rw [if_pos hn]
  have hsl : s.length ≤ 1048576 := by omega
  obtain ⟨r, h1, h2, h3, h4⟩ := szES l 1048576 hl.1 (by omega) (by omega)
  by_cases hr : r < 0
  · refine ⟨0, ?_⟩
    unfold laws_FnExactIsIndependent.f
    rw [if_neg hn, h1, Option.bind_some, if_pos hr]
  have hl' : l.length ≤ 1048576 := by have := h4 (by omega); omega
  have hm : (l.map cvE).length = l.length := by simp
  refine ⟨3000001, ?_⟩
  generalize hk : (3000001 : Nat) = k
  unfold laws_FnExactIsIndependent.f
  rw [if_neg hn, h1, Option.bind_some, if_neg hr, toES l hl' _ (by omega), toI _ hsl _ (by omega)]
  simp only [Option.bind_some]
  rw [indS _ (by omega) _ (by omega) _ (by omega), impl_IsIndependent.f, eqES _ (by omega) _ (by omega), eqI _ hsl _ (by omega)]
  simp

end Go.Proofs.Ytkdkibdigfglhaa.Pure
