/- The law FnExactRelationIndex answers true for every list of relations and every name that the row admits: both search for the first of that name. -/
import Derived.Test.YtkdkibdigfglhaaGFnExactRelationIndex
import Derived.Test.YtkdkibdigfglhaaBase
namespace Go.Proofs.Ytkdkibdigfglhaa.Pure
open Go.RowKit Go.Proofs.Ytkdkibdigfglhaa.PFnExactRelationIndex Go.Proofs.YtkdkibdigfglhaaW.PrintWords Go.Proofs.YtkdkibdigfglhaaW.PrintLast Go.Proofs.YtkdkibdigfglhaaW.PrintMore Go.Proofs.Ytkdkibdigfglhaa.Base
set_option linter.unusedVariables false
set_option linter.unusedSimpArgs false

/-! ### relations: what the laws' own functions on them come to -/
def cvR (x : S29) : S32 := ⟨x.f0, x.f1, x.f2⟩

theorem szR (n a b v : _) (hn : n.size ≤ maxLen) (hv : 0 ≤ v) (hv1 : v ≤ 1048576) : ∃ r, laws_szRelation.f n a b v = some r ∧ r ≤ v ∧ -1 ≤ r ∧ (0 ≤ r → (n.size : Int) ≤ v) := by
  unfold maxLen at hn
  unfold laws_szRelation.f
  rw [w64 (by omega) (by omega)]
  by_cases h : v - (n.size : Int) < 0
  · exact ⟨-1, if_pos h, by omega, by omega, fun h => absurd h (by decide)⟩
  · exact ⟨_, if_neg h, by omega, by omega, fun _ => by omega⟩

theorem szRSl (l : List S29) (hl : l.length ≤ maxLen) (hg : ∀ y ∈ l, y.f0.size ≤ maxLen) (d : Nat) : ∀ (i v : Int), 0 ≤ i → (l.length : Int) - i = d → 0 ≤ v → v ≤ 1048576 → ∃ r, r ≤ v ∧ -1 ≤ r ∧ ∀ k, d < k → laws_szRelationS.l0 k l v i = some r := by
  unfold maxLen at hl
  induction d with
  | zero =>
    intro i v h0 hd hv _
    refine ⟨v, by omega, by omega, fun k hk => ?_⟩
    obtain ⟨k, rfl, hk⟩ := fuel hk
    rw [laws_szRelationS.l0, if_neg (by omega)]
  | succ d ih =>
    intro i v h0 hd hv hv1
    obtain ⟨r, hr, h1, h2, _⟩ := szR (rd_T29 l i).f0 (rd_T29 l i).f1 (rd_T29 l i).f2 v (hg _ (getD_mem l _ _ (by omega))) hv hv1
    by_cases hneg : r < 0
    · refine ⟨-1, by omega, by omega, fun k hk => ?_⟩
      obtain ⟨k, rfl, hk⟩ := fuel hk
      rw [laws_szRelationS.l0, if_pos (by omega), if_pos h0, hr]
      simp only [Option.bind_some]
      rw [if_pos hneg]
    · obtain ⟨r', h3, h4, h5⟩ := ih (i + 1) r (by omega) (by omega) (by omega) (by omega)
      refine ⟨r', by omega, h4, fun k hk => ?_⟩
      obtain ⟨k, rfl, hk⟩ := fuel hk
      rw [laws_szRelationS.l0, if_pos (by omega), if_pos h0, hr]
      simp only [Option.bind_some]
      rw [if_neg hneg, w64 (by omega) (by omega)]
      exact h5 k (by omega)

theorem szRS (l : List S29) (hl : l.length ≤ maxLen) (hg : ∀ y ∈ l, y.f0.size ≤ maxLen) (v : Int) (hv : 0 ≤ v) (hv1 : v ≤ 1048576) : ∃ r, r ≤ v ∧ -1 ≤ r ∧ (0 ≤ r → (l.length : Int) ≤ v) ∧ ∀ k, l.length < k → laws_szRelationS.f k l v = some r := by
  have hl' := hl
  unfold maxLen at hl'
  unfold laws_szRelationS.f
  rw [w64 (by omega) (by omega)]
  by_cases h : v - (l.length : Int) < 0
  · exact ⟨-1, by omega, by omega, fun h => absurd h (by decide), fun k _ => if_pos h⟩
  · obtain ⟨r, h1, h2, h3⟩ := szRSl l hl hg l.length 0 (v - l.length) (by omega) (by omega) (by omega) (by omega)
    exact ⟨r, by omega, h2, fun _ => by omega, fun k hk => by rw [if_neg h]; exact h3 k hk⟩

theorem toRSl (l : List S29) (hl : l.length ≤ 1048576) (d : Nat) : ∀ (i : Nat) (xs : List S32), (l.length : Int) - i = d → xs.length = l.length → xs.take i = (l.take i).map cvR → ∀ k, d < k → laws_toRelationS.l0 k l xs i = some (l.map cvR) := by
  induction d with
  | zero =>
    intro i xs hd hx ht k hk
    obtain ⟨k, rfl, hk⟩ := fuel hk
    rw [laws_toRelationS.l0, if_neg (by omega)]
    rw [List.take_of_length_le (by omega), List.take_of_length_le (by omega)] at ht
    rw [ht]
  | succ d ih =>
    intro i xs hd hx ht k hk
    obtain ⟨k, rfl, hk⟩ := fuel hk
    rw [laws_toRelationS.l0, if_pos (by omega), if_pos (by omega), laws_toRelation.f]
    simp only [Option.bind_some]
    rw [if_pos (by omega), show wrap64 ((i : Int) + 1) = ((i + 1 : Nat) : Int) by rw [w64 (by omega) (by omega)]; omega]
    refine ih (i + 1) _ (by omega) (by simpa using hx) ?_ k (by omega)
    rw [Int.toNat_natCast, take_set_succ _ _ _ (by omega), take_map_succ cvR z29 l i (by omega), ht]
    rfl

theorem toRS (l : List S29) (hl : l.length ≤ 1048576) (k : Nat) (hk : l.length < k) : laws_toRelationS.f k l = some (l.map cvR) := by
  unfold laws_toRelationS.f
  rw [if_pos (by omega), Int.toNat_natCast, if_pos (by omega)]
  exact toRSl l hl l.length 0 _ (by omega) (by simp) (by simp) k hk

theorem eqR (a : S32) : laws_eqRelation.f a.f0 a.f1 a.f2 a.f0 a.f1 a.f2 = some true := by
  unfold laws_eqRelation.f
  rw [if_pos rfl, if_pos rfl, if_pos rfl]
theorem eqRSl (l : List S32) (hl : l.length ≤ 1048576) (d : Nat) : ∀ (i : Int), 0 ≤ i → (l.length : Int) - i = d → ∀ k, d < k → laws_eqRelationS.l0 k l l i = some true := by
  induction d with
  | zero =>
    intro i h0 hd k hk
    obtain ⟨k, rfl, hk⟩ := fuel hk
    rw [laws_eqRelationS.l0, if_neg (by omega)]
  | succ d ih =>
    intro i h0 hd k hk
    obtain ⟨k, rfl, hk⟩ := fuel hk
    rw [laws_eqRelationS.l0, if_pos (by omega), if_pos h0, if_pos (by omega), eqR]
    simp only [Option.bind_some, if_true]
    rw [w64 (by omega) (by omega)]
    exact ih (i + 1) (by omega) (by omega) k (by omega)
theorem eqRS (l : List S32) (hl : l.length ≤ 1048576) (k : Nat) (hk : l.length < k) : laws_eqRelationS.f k l l = some true := by
  unfold laws_eqRelationS.f
  rw [if_pos rfl]
  exact eqRSl l hl l.length 0 (by omega) (by omega) k hk

theorem relIdxSl (l : List S32) (nm : ByteArray) (hl : l.length ≤ 1048576) (d : Nat) : ∀ (i : Nat), i + d = l.length → ∀ k, d < k → spec_RelationIndex.l0 k l nm i = some (idxW (nameIs nm) (l.drop i) i) := by
  induction d with
  | zero =>
    intro i hd k hk
    obtain ⟨k, rfl, hk⟩ := fuel hk
    rw [spec_RelationIndex.l0, if_neg (by omega), List.drop_of_length_le (by omega)]
    rfl
  | succ d ih =>
    intro i hd k hk
    obtain ⟨k, rfl, hk⟩ := fuel hk
    have e1 : wrap64 ((i : Int) + 1) = ((i + 1 : Nat) : Int) := by rw [w64 (by omega) (by omega)]; omega
    have e2 : rd_T32 l (i : Int) = l[i] := by unfold rd_T32; rw [Int.toNat_natCast, getD_lt l _ i (by omega)]
    rw [spec_RelationIndex.l0, if_pos (by omega), if_pos (by omega), e2, e1, List.drop_eq_getElem_cons (by omega)]
    simp only [idxW, nameIs, beq_iff_eq]
    by_cases h : l[i].f0.toList = nm.toList
    · rw [if_pos h, if_pos h]
    · rw [if_neg h, if_neg h, ih (i + 1) (by omega) k (by omega)]
      rfl
theorem relIdxS (l : List S32) (nm : ByteArray) (hl : l.length ≤ 1048576) (k : Nat) (hk : l.length < k) : spec_RelationIndex.f k l nm = some (idxW (nameIs nm) l 0) :=
  relIdxSl l nm hl l.length 0 (by omega) k hk


theorem FnExactRelationIndex : FnExactRelationIndexPure := by
  intro l nm hl hn
  by_cases hs : (nm.size : Int) > 1048576
  · exact ⟨0, by unfold laws_FnExactRelationIndex.f; rw [if_pos hs]⟩
  obtain ⟨r, h1, h2, h3, h4⟩ := szRS l hl.1 (fun y hy => (hl.2 y hy).1) 1048576 (by omega) (by omega)
  refine ⟨l.length + 1, ?_⟩
  unfold laws_FnExactRelationIndex.f
  rw [if_neg hs, h4 _ (by omega)]
  simp only [Option.bind_some]
  by_cases hr : r < 0
  · rw [if_pos hr]
  · have hlen : l.length ≤ 1048576 := by have := h3 (by omega); omega
    have hm : (l.map cvR).length = l.length := by simp
    rw [if_neg hr, toRS l hlen _ (by omega)]
    simp only [Option.bind_some]
    rw [relIdxS (l.map cvR) nm (by omega) _ (by omega), impl_RelationIndex.f]
    simp only [Option.bind_some, if_true]
    rw [eqRS (l.map cvR) (by omega) _ (by omega)]
    simp

end Go.Proofs.Ytkdkibdigfglhaa.Pure
