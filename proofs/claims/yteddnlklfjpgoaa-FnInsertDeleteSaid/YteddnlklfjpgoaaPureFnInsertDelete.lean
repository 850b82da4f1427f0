/- The law FnInsertDelete answers true for every code: an inserted fact is contained, taking it out gives the database back, and a fact taken out of a database may be laid back. -/
import Derived.Test.YteddnlklfjpgoaaPFnInsertDeletex19
import Derived.Test.YteddnlklfjpgoaaBase
namespace Go.Proofs.Yteddnlklfjpgoaa.Pure
open Go.RowKit Go.Proofs.Yteddnlklfjpgoaa.PFnInsertDelete Go.Proofs.YteddnlklfjpgoaaW.PrintWords Go.Proofs.YteddnlklfjpgoaaW.PrintLast Go.Proofs.YteddnlklfjpgoaaW.PrintMore Go.Proofs.Yteddnlklfjpgoaa.Base
set_option linter.unusedVariables false
set_option linter.unusedSimpArgs false
theorem cmpSl (a b : List Int) (ha : a.length ≤ 1048576) (hb : b.length ≤ 1048576) (d : Nat) : ∀ (i : Nat), i + d = a.length → ∀ k, 2 * d + 1 < k → spec_l3Ints.l0 k a b i = some (cmpI (a.drop i) (b.drop i)) ∨ b.length < i := by
 induction d with
 | zero =>
  intro i hd k hk
  by_cases hbi : b.length < i
  ·exact .inr hbi
  left
  obtain ⟨k, rfl⟩ : ∃ z, k = z + 2 := ⟨k - 2, by omega⟩
  rw [spec_l3Ints.l0, if_neg (by omega), spec_l3Ints.j1, if_neg (by decide), cmpI_end (.inl (List.drop_of_length_le (by omega))), List.length_drop, List.length_drop]
  by_cases h1 : (a.length : Int) < (b.length : Int)
  ·rw [if_pos h1, if_pos (show a.length - i < b.length - i by omega)]
  ·rw [if_neg h1, if_neg (show ¬ (a.length : Int) > (b.length : Int) by omega), if_neg (show ¬ a.length - i < b.length - i by omega), if_neg (show ¬ a.length - i > b.length - i by omega)]
 | succ d ih =>
  intro i hd k hk
  by_cases hbi : b.length < i
  ·exact .inr hbi
  left
  obtain ⟨k, rfl⟩ : ∃ z, k = z + 2 := ⟨k - 2, by omega⟩
  rw [spec_l3Ints.l0, if_pos (by omega)]
  by_cases hlt : i < b.length
  ·have e1 : wrap64 ((i : Int) + 1) = ((i + 1 : Nat) : Int) := by rw [w64 (by omega) (by omega)]; omega
   have e2 : rd a (i : Int) = a[i] := by unfold rd; rw [Int.toNat_natCast, getD_lt a _ i (by omega)]
   have e3 : rd b (i : Int) = b[i] := by unfold rd; rw [Int.toNat_natCast, getD_lt b _ i (by omega)]
   rw [decide_eq_true (by omega), spec_l3Ints.j1, if_pos rfl, if_pos (by omega), if_pos (by omega), if_pos (by omega), e1, e2, e3]
   rw [List.drop_eq_getElem_cons (i := i) (l := a) (by omega), List.drop_eq_getElem_cons (i := i) (l := b) (by omega), cmpI]
   by_cases h1 : a[i] < b[i]
   ·rw [if_pos h1, if_pos h1]
   ·rw [if_neg h1, if_neg h1]
    by_cases h2 : a[i] > b[i]
    ·rw [if_pos h2, if_pos h2]
    ·rw [if_neg h2, if_neg h2]
     rcases ih (i + 1) (by omega) k (by omega) with h | h
     ·exact h
     ·omega
  ·rw [decide_eq_false (by omega), spec_l3Ints.j1, if_neg (by decide), cmpI_end (.inr (List.drop_of_length_le (by omega))), List.length_drop, List.length_drop]
   rw [if_neg (show ¬ (a.length : Int) < (b.length : Int) by omega), if_pos (show (a.length : Int) > (b.length : Int) by omega), if_neg (show ¬ a.length - i < b.length - i by omega), if_pos (show a.length - i > b.length - i by omega)]
theorem cmpS (a b : List Int) (ha : a.length ≤ 1048576) (hb : b.length ≤ 1048576) (k : Nat) (hk : 2 * a.length + 1 < k) : spec_l3Ints.f k a b = some (cmpI a b) := by
 rcases cmpSl a b ha hb a.length 0 (by omega) k hk with h | h
 ·exact h
 ·omega
theorem cmpFS (x : Int) (a : List Int) (y : Int) (b : List Int) (ha : a.length ≤ 1048576) (hb : b.length ≤ 1048576) (k : Nat) (hk : 2 * a.length + 1 < k) : spec_CompareFacts.f k x a y b = some (cmpF x a y b) := by
 unfold spec_CompareFacts.f cmpF
 by_cases h1 : x < y
 ·rw [if_pos h1, if_pos h1]
 ·rw [if_neg h1, if_neg h1]
  by_cases h2 : x > y
  ·rw [if_pos h2, if_pos h2]
  ·rw [if_neg h2, if_neg h2, cmpS a b ha hb k hk]
   rfl
theorem in1 (x a b : Int) : spec_l1In.f x a b = some (decide (a ≤ x ∧ x ≤ b)) := by
 unfold spec_l1In.f
 by_cases h : a ≤ x
 ·rw [if_pos h]; simp [h]
 ·rw [if_neg h]; simp [h]
theorem vFSl (a : Int) (vs : List Int) (hs : vs.length ≤ 1048576) (d : Nat) : ∀ (i : Nat), i + d = vs.length → ∀ k, d < k → spec_IsValidFact.l0 k i a vs = some (!(vs.drop i).any noVal) := by
 induction d with
 | zero =>
  intro i hd k hk
  obtain ⟨k, rfl, hk⟩ := fuel hk
  rw [spec_IsValidFact.l0, if_neg (by omega), List.drop_of_length_le (by omega)]
  rfl
 | succ d ih =>
  intro i hd k hk
  obtain ⟨k, rfl, hk⟩ := fuel hk
  rw [spec_IsValidFact.l0, if_pos (by omega), if_pos (by omega), in1, Option.bind_some, List.drop_eq_getElem_cons (i := i) (l := vs) (by omega), List.any_cons]
  rw [show wrap64 ((i : Int) + 1) = ((i + 1 : Nat) : Int) by rw [w64 (by omega) (by omega)]; omega, show rd vs (i : Int) = vs[i] by unfold rd; rw [Int.toNat_natCast, getD_lt vs _ i (by omega)]]
  by_cases h : 0 ≤ vs[i] ∧ vs[i] ≤ 9
  ·rw [if_pos (by simpa using h), ih (i + 1) (by omega) k (by omega)]
   have : noVal vs[i] = false := by simp [noVal, h]
   rw [this, Bool.false_or]
  ·rw [if_neg (by simpa using h)]
   have : noVal vs[i] = true := by
    unfold noVal
    by_cases h1 : 0 ≤ vs[i]
    ·have h2 : ¬ vs[i] ≤ 9 := fun h2 => h ⟨h1, h2⟩
     simp [h2]
    ·simp [h1]
   rw [this, Bool.true_or]
   rfl
theorem vFS (l : List S74) (hl : l.length ≤ 1048576) (a : Int) (vs : List Int) (hs : vs.length ≤ 1048576) (k : Nat) (hk : vs.length + 1 < k) : spec_IsValidFact.f k l a vs = some (vFact l a vs) := by
 obtain ⟨k, rfl⟩ : ∃ z, k = z + 1 := ⟨k - 1, by omega⟩
 unfold spec_IsValidFact.f spec_AreValidRelations.f vFact fits
 rw [Option.bind_some, in1, Option.bind_some, w64 (by omega) (by omega)]
 by_cases h0 : vRels l = true
 ·rw [if_pos h0]
  by_cases h1 : 0 ≤ a ∧ a < (l.length : Int)
  ·rw [if_pos (by simpa using (by omega : 0 ≤ a ∧ a ≤ (l.length : Int) - 1)), if_pos h1.1, if_pos h1.2, spec_IsValidFact.j0]
   by_cases h2 : (vs.length : Int) = (rd_T74 l a).f1
   ·rw [if_neg (by simpa using h2), show (0 : Int) = ((0 : Nat) : Int) from rfl, vFSl a vs hs vs.length 0 (by omega) k (by omega), h0, decide_eq_true (by exact ⟨h1.1, h1.2, h2⟩)]
    simp
   ·rw [if_pos (by simpa using h2), decide_eq_false (by intro h; exact h2 h.2.2)]
    simp
  ·rw [if_neg (by simpa using (by omega : 0 ≤ a → ¬ a ≤ (l.length : Int) - 1)), spec_IsValidFact.j0, if_pos rfl, decide_eq_false (by intro h; exact h1 ⟨h.1, h.2.1⟩)]
   simp
 ·rw [if_neg h0, spec_IsValidFact.j0, if_pos rfl]
  simp [h0]
theorem vDSl (l : List S74) (hl : l.length ≤ 1048576) (fs : List S45) (hf : fs.length ≤ 1048576) (hg : ∀ y ∈ fs, y.f1.length ≤ 1048576) (d : Nat) : ∀ (i : Nat), i + d = fs.length → ∀ k, d + 4000000 < k → spec_IsValidDatabase.l0 k i l fs = some (vRels l && decide (fs.length ≤ 14) && okFrom l fs d i) := by
 induction d with
 | zero =>
  intro i hd k hk
  obtain ⟨k, rfl, hk⟩ := fuel hk
  rw [spec_IsValidDatabase.l0, if_neg (by omega)]
  unfold spec_AreValidRelations.f
  rw [Option.bind_some]
  by_cases h : vRels l = true
  ·rw [if_pos h, h, okFrom]
   simp only [Bool.true_and, Bool.and_true]
   congr 2
   exact propext (by omega)
  ·rw [if_neg h]; simp [h]
 | succ d ih =>
  intro i hd k hk
  obtain ⟨k, rfl, hk⟩ := fuel hk
  have hy := hg _ (getD_mem fs z45 i (by omega))
  rw [spec_IsValidDatabase.l0, if_pos (by omega), if_pos (by omega)]
  unfold rd_T45
  rw [Int.toNat_natCast, vFS l hl _ _ hy k (by omega), Option.bind_some, okFrom]
  unfold vFact
  by_cases h0 : vRels l = true
  ·by_cases h1 : fits l (fs.getD i z45).f0 (fs.getD i z45).f1 = true
   ·rw [h0, h1, Bool.true_and, if_pos rfl]
    by_cases hi : i = 0
    ·rw [if_neg (by omega), show wrap64 ((i : Int) + 1) = ((i + 1 : Nat) : Int) by rw [w64 (by omega) (by omega)]; omega, ih (i + 1) (by omega) k (by omega), h0, decide_eq_true hi]
     simp
    ·have hy' := hg _ (getD_mem fs z45 (i - 1) (by omega))
     have ew : wrap64 ((i : Int) - 1) = ((i - 1 : Nat) : Int) := by rw [w64 (by omega) (by omega)]; omega
     rw [if_pos (by omega), ew, if_pos (by omega), if_pos (by omega), Int.toNat_natCast, cmpFS _ _ _ _ hy' hy k (by omega), Option.bind_some, decide_eq_false hi]
     by_cases hc : cmpF (fs.getD (i - 1) z45).f0 (fs.getD (i - 1) z45).f1 (fs.getD i z45).f0 (fs.getD i z45).f1 < 0
     ·rw [if_neg (by omega), show wrap64 ((i : Int) + 1) = ((i + 1 : Nat) : Int) by rw [w64 (by omega) (by omega)]; omega, ih (i + 1) (by omega) k (by omega), h0, decide_eq_true hc]
      simp
     ·rw [if_pos (by omega), decide_eq_false hc]
      simp
   ·rw [Bool.eq_false_iff.2 h1, Bool.and_false, if_neg (by decide)]
    simp
  ·rw [if_neg (by simp [h0])]
   simp [h0]
theorem vDS (l : List S74) (hl : l.length ≤ 1048576) (fs : List S45) (hf : fs.length ≤ 1048576) (hg : ∀ y ∈ fs, y.f1.length ≤ 1048576) (k : Nat) (hk : 6000000 < k) : spec_IsValidDatabase.f k l fs = some (vDb l fs) := by
 unfold spec_IsValidDatabase.f vDb
 exact vDSl l hl fs hf hg fs.length 0 (by omega) k (by omega)
theorem okFrom_at (l : List S74) (fs : List S45) : ∀ (d i : Nat), okFrom l fs d i = true → ∀ j, i ≤ j → j < i + d → fits l (fs.getD j z45).f0 (fs.getD j z45).f1 = true ∧ (j = 0 ∨ cmpF (fs.getD (j - 1) z45).f0 (fs.getD (j - 1) z45).f1 (fs.getD j z45).f0 (fs.getD j z45).f1 < 0)
 | 0, i, _, j, h1, h2 => by omega
 | d + 1, i, h, j, h1, h2 => by
  rw [okFrom, Bool.and_eq_true, Bool.and_eq_true, Bool.or_eq_true, decide_eq_true_iff, decide_eq_true_iff] at h
  by_cases hj : j = i
  ·subst hj
   exact h.1
  ·exact okFrom_at l fs d (i + 1) h.2 j (by omega) (by omega)
theorem vDb_parts (l : List S74) (fs : List S45) (h : vDb l fs = true) : vRels l = true ∧ fs.length ≤ 14 ∧ (∀ j, j < fs.length → fits l (fs.getD j z45).f0 (fs.getD j z45).f1 = true) ∧ ∀ j, 0 < j → j < fs.length → cmpF (fs.getD (j - 1) z45).f0 (fs.getD (j - 1) z45).f1 (fs.getD j z45).f0 (fs.getD j z45).f1 < 0 := by
 unfold vDb at h
 rw [Bool.and_eq_true, Bool.and_eq_true, decide_eq_true_iff] at h
 refine ⟨h.1.1, h.1.2, fun j hj => (okFrom_at l fs _ 0 h.2 j (by omega) (by omega)).1, fun j h0 hj => ?_⟩
 rcases (okFrom_at l fs _ 0 h.2 j (by omega) (by omega)).2 with e | e
 ·omega
 ·exact e
def factEq (x y : S45) : Bool := cmpF x.f0 x.f1 y.f0 y.f1 == 0
def relNe (x y : S74) : Bool := !(x.f0.toList == y.f0.toList) || (!(x.f1 == y.f1) || (!(x.f2 == y.f2)))
theorem eqFl (l m : List S74) (fs gs : List S45) (hf : fs.length ≤ 1048576) (hl : gs.length = fs.length) (hg : ∀ y ∈ fs, y.f1.length ≤ 1048576) (hh : ∀ y ∈ gs, y.f1.length ≤ 1048576) (d : Nat) : ∀ (i : Nat), i + d = fs.length → ∀ k, d + 2097160 < k → spec_EqualDatabases.l1 k i l fs m gs = some (eqW factEq (fs.drop i) (gs.drop i)) := by
 induction d with
 | zero =>
  intro i hd k hk
  obtain ⟨k, rfl, hk⟩ := fuel hk
  rw [spec_EqualDatabases.l1, if_neg (by omega), List.drop_of_length_le (by omega), List.drop_of_length_le (by omega)]
  rfl
 | succ d ih =>
  intro i hd k hk
  obtain ⟨k, rfl, hk⟩ := fuel hk
  have hx := hg _ (getD_mem fs z45 i (by omega))
  have hy := hh _ (getD_mem gs z45 i (by omega))
  rw [spec_EqualDatabases.l1, if_pos (by omega), if_pos (by omega), if_pos (by omega)]
  unfold rd_T45
  rw [Int.toNat_natCast, cmpFS _ _ _ _ hx hy k (by omega), Option.bind_some, List.drop_eq_getElem_cons (i := i) (l := fs) (by omega), List.drop_eq_getElem_cons (i := i) (l := gs) (by omega), eqW, getD_lt fs _ i (by omega), getD_lt gs _ i (by omega), show wrap64 ((i : Int) + 1) = ((i + 1 : Nat) : Int) by rw [w64 (by omega) (by omega)]; omega, ih (i + 1) (by omega) k (by omega)]
  by_cases h : cmpF fs[i].f0 fs[i].f1 gs[i].f0 gs[i].f1 = 0
  ·rw [if_pos h, show factEq fs[i] gs[i] = true by unfold factEq; rw [h]; rfl]
   rfl
  ·rw [if_neg h, show factEq fs[i] gs[i] = false by unfold factEq; rw [beq_eq_false_iff_ne]; exact h]
   rfl
theorem eqDl (l m : List S74) (fs gs : List S45) (hr : l.length ≤ 1048576) (hm : m.length = l.length) (hf : fs.length ≤ 1048576) (hl : gs.length = fs.length) (hg : ∀ y ∈ fs, y.f1.length ≤ 1048576) (hh : ∀ y ∈ gs, y.f1.length ≤ 1048576) (d : Nat) : ∀ (i : Nat), i + d = l.length → ∀ k, d + 4000000 < k → spec_EqualDatabases.l0 k i l fs m gs = some (eqW (fun a b => !relNe a b) (l.drop i) (m.drop i) && eqW factEq fs gs) := by
 induction d with
 | zero =>
  intro i hd k hk
  obtain ⟨k, rfl, hk⟩ := fuel hk
  rw [spec_EqualDatabases.l0, if_neg (by omega), List.drop_of_length_le (by omega), List.drop_of_length_le (by omega)]
  have := eqFl l m fs gs hf hl hg hh fs.length 0 (by omega) k (by omega)
  rw [show (0 : Int) = ((0 : Nat) : Int) from rfl, this]
  rfl
 | succ d ih =>
  intro i hd k hk
  obtain ⟨k, rfl, hk⟩ := fuel hk
  rw [spec_EqualDatabases.l0, if_pos (by omega), if_pos (by omega), if_pos (by omega), List.drop_eq_getElem_cons (i := i) (l := l) (by omega), List.drop_eq_getElem_cons (i := i) (l := m) (by omega), eqW]
  unfold rd_T74
  rw [Int.toNat_natCast, getD_lt l _ i (by omega), getD_lt m _ i (by omega), show wrap64 ((i : Int) + 1) = ((i + 1 : Nat) : Int) by rw [w64 (by omega) (by omega)]; omega, ih (i + 1) (by omega) k (by omega)]
  by_cases h : relNe l[i] m[i] = true
  ·have h' := h
   unfold relNe at h'
   rw [if_pos h', h]
   rfl
  ·have h' := h
   unfold relNe at h'
   rw [if_neg h', Bool.eq_false_iff.2 h]
   rfl
theorem eqdbS (l m : List S74) (fs gs : List S45) (hr : l.length ≤ 1048576) (hf : fs.length ≤ 1048576) (hg : ∀ y ∈ fs, y.f1.length ≤ 1048576) (hh : ∀ y ∈ gs, y.f1.length ≤ 1048576) (k : Nat) (hk : 8000000 < k) :
  spec_EqualDatabases.f k l fs m gs = some (eqW (fun a b => !relNe a b) l m && eqW factEq fs gs) := by
 obtain ⟨k, rfl⟩ : ∃ z, k = z + 1 := ⟨k - 1, by omega⟩
 unfold spec_EqualDatabases.f
 by_cases h : l.length = m.length
 ·rw [if_pos (by omega), spec_EqualDatabases.j0]
  by_cases h2 : fs.length = gs.length
  ·rw [if_neg (by simp [h2])]
   exact eqDl l m fs gs hr h.symm hf h2.symm hg hh l.length 0 (by omega) k (by omega)
  ·rw [if_pos (by simp; omega), eqW_len factEq _ _ h2, Bool.and_false]
 ·rw [if_neg (by omega), spec_EqualDatabases.j0, if_pos rfl, eqW_len _ _ _ h, Bool.false_and]
theorem fidxSl (l : List S74) (fs : List S45) (hf : fs.length ≤ 1048576) (hg : ∀ y ∈ fs, y.f1.length ≤ 1048576) (a : Int) (vs : List Int) (hv : vs.length ≤ 1048576) (d : Nat) : ∀ (i : Nat), i + d = fs.length → ∀ k, d + 2097160 < k → spec_FactIndex.l0 k i l fs a vs = some (idxW (factIs a vs) (fs.drop i) i) := by
 induction d with
 | zero =>
  intro i hd k hk
  obtain ⟨k, rfl, hk⟩ := fuel hk
  rw [spec_FactIndex.l0, if_neg (by omega), List.drop_of_length_le (by omega)]
  rfl
 | succ d ih =>
  intro i hd k hk
  obtain ⟨k, rfl, hk⟩ := fuel hk
  have hy := hg _ (getD_mem fs z45 i (by omega))
  have e1 : wrap64 ((i : Int) + 1) = ((i + 1 : Nat) : Int) := by rw [w64 (by omega) (by omega)]; omega
  rw [spec_FactIndex.l0, if_pos (by omega), if_pos (by omega), e1]
  unfold rd_T45
  rw [Int.toNat_natCast, cmpFS _ _ _ _ hy hv k (by omega), Option.bind_some, List.drop_eq_getElem_cons (by omega), idxW, getD_lt fs _ i (by omega)]
  unfold factIs
  by_cases h : cmpF fs[i].f0 fs[i].f1 a vs = 0
  ·rw [if_pos h, if_pos (by simpa using h)]
  ·rw [if_neg h, if_neg (by simpa using h), ih (i + 1) (by omega) k (by omega)]
   unfold factIs
   rfl
theorem fidxS (l : List S74) (fs : List S45) (hf : fs.length ≤ 1048576) (hg : ∀ y ∈ fs, y.f1.length ≤ 1048576) (a : Int) (vs : List Int) (hv : vs.length ≤ 1048576) (k : Nat) (hk : 4000000 < k) : spec_FactIndex.f k l fs a vs = some (idxW (factIs a vs) fs 0) := by
 unfold spec_FactIndex.f
 exact fidxSl l fs hf hg a vs hv fs.length 0 (by omega) k (by omega)
theorem hasS (l : List S74) (hl : l.length ≤ 1048576) (fs : List S45) (hf : fs.length ≤ 1048576) (hg : ∀ y ∈ fs, y.f1.length ≤ 1048576) (a : Int) (vs : List Int) (hv : vs.length ≤ 1048576) (k : Nat) (hk : 8000000 < k) : spec_ContainsFact.f k l fs a vs = some (vDb l fs && decide (idxW (factIs a vs) fs 0 ≥ 0)) := by
 unfold spec_ContainsFact.f
 rw [vDS l hl fs hf hg k (by omega), Option.bind_some]
 by_cases h : vDb l fs = true
 ·rw [if_pos h, fidxS l fs hf hg a vs hv k (by omega), Option.bind_some, h, Bool.true_and]
 ·rw [if_neg h, Bool.eq_false_iff.2 h, Bool.false_and]
def insAt (fs : List S45) (a : Int) (vs : List Int) : Nat → Nat → Nat
 | 0, i => i
 | d + 1, i => if cmpF (fs.getD i z45).f0 (fs.getD i z45).f1 a vs < 0 then insAt fs a vs d (i + 1) else i
theorem insAt_le (fs : List S45) (a : Int) (vs : List Int) : ∀ (d i : Nat), i ≤ insAt fs a vs d i ∧ insAt fs a vs d i ≤ i + d
 | 0, i => ⟨Nat.le_refl _, Nat.le_refl _⟩
 | d + 1, i => by
  rw [insAt]
  have := insAt_le fs a vs d (i + 1)
  split <;> omega
def insF (fs : List S45) (a : Int) (vs : List Int) : List S45 := fs.take (insAt fs a vs fs.length 0) ++ ⟨a, vs⟩ :: fs.drop (insAt fs a vs fs.length 0)
def mayIns (l : List S74) (fs : List S45) (a : Int) (vs : List Int) : Bool := vDb l fs && fits l a vs && decide (idxW (factIs a vs) fs 0 < 0) && decide (fs.length ≠ 14)
theorem insF_len (fs : List S45) (a : Int) (vs : List Int) : (insF fs a vs).length = fs.length + 1 := by
 have := insAt_le fs a vs fs.length 0
 unfold insF
 simp only [List.length_append, List.length_take, List.length_drop, List.length_cons]
 omega
theorem insF_mem (fs : List S45) (a : Int) (vs : List Int) (y : S45) : y ∈ insF fs a vs ↔ y ∈ fs ∨ y = ⟨a, vs⟩ := by
 unfold insF
 rw [List.mem_append, List.mem_cons]
 constructor
 ·rintro (h | h | h)
  ·exact .inl (List.mem_of_mem_take h)
  ·exact .inr h
  ·exact .inl (List.mem_of_mem_drop h)
 ·rintro (h | h)
  ·rw [← List.take_append_drop (insAt fs a vs fs.length 0) fs, List.mem_append] at h
   rcases h with h | h
   ·exact .inl h
   ·exact .inr (.inr h)
  ·exact .inr (.inl h)
theorem copySl (l l2 : List S74) (fs : List S45) (hf : fs.length ≤ 1048576) (hg : ∀ y ∈ fs, y.f1.length ≤ 1048576) (d : Nat) : ∀ (i : Nat), i + d = fs.length → ∀ k, d < k → spec_l4Copy.l0 k i l fs l2 (fs.take i) = some (l2, fs) := by
 induction d with
 | zero =>
  intro i hd k hk
  obtain ⟨k, rfl, hk⟩ := fuel hk
  rw [spec_l4Copy.l0, if_neg (by omega), List.take_of_length_le (by omega)]
 | succ d ih =>
  intro i hd k hk
  obtain ⟨k, rfl, hk⟩ := fuel hk
  have hy := hg _ (getD_mem fs z45 i (by omega))
  rw [spec_l4Copy.l0, if_pos (by omega), if_pos (by omega), Option.bind_some]
  unfold rd_T45
  rw [Int.toNat_natCast, if_pos (by simp only [List.length_nil]; omega), if_pos (by rw [List.length_take]; omega), List.nil_append, show wrap64 ((i : Int) + 1) = ((i + 1 : Nat) : Int) by rw [w64 (by omega) (by omega)]; omega]
  rw [show fs.take i ++ [(⟨(fs.getD i z45).f0, (fs.getD i z45).f1⟩ : S45)] = fs.take (i + 1) by rw [List.take_succ_eq_append_getElem (by omega), getD_lt fs _ i (by omega)]]
  exact ih (i + 1) (by omega) k (by omega)
theorem copyS (l : List S74) (hl : l.length ≤ 1048576) (fs : List S45) (hf : fs.length ≤ 1048576) (hg : ∀ y ∈ fs, y.f1.length ≤ 1048576) (k : Nat) (hk : fs.length < k) : spec_l4Copy.f k l fs = some (l, fs) := by
 unfold spec_l4Copy.f
 rw [Option.bind_some, if_pos (by simp only [List.length_nil]; omega), List.nil_append]
 exact copySl l l fs hf hg fs.length 0 (by omega) k hk
theorem insSl (l : List S74) (fs : List S45) (hf : fs.length ≤ 1048576) (hg : ∀ y ∈ fs, y.f1.length ≤ 1048576) (a : Int) (vs : List Int) (hv : vs.length ≤ 1048576) (d : Nat) : ∀ (i : Nat), i + d = fs.length → ∀ k, d + 2097160 < k → spec_InsertFact.l0 k i a vs l fs = some (l, fs.take (insAt fs a vs d i) ++ ⟨a, vs⟩ :: fs.drop (insAt fs a vs d i), true) := by
 induction d with
 | zero =>
  intro i hd k hk
  obtain ⟨k, rfl, hk⟩ := fuel hk
  rw [spec_InsertFact.l0, if_neg (by omega), insAt]
  simp only [Option.bind_some]
  rw [if_pos (by simp only [List.length_nil]; omega), if_pos (by omega), if_pos (by omega), if_pos (by simp only [List.length_cons, List.length_nil, List.length_drop]; omega), if_pos (by simp only [List.length_nil, List.length_take]; omega), if_pos (by simp only [List.nil_append, List.length_append, List.length_cons, List.length_nil, List.length_drop, List.length_take]; omega)]
  simp
 | succ d ih =>
  intro i hd k hk
  obtain ⟨k, rfl, hk⟩ := fuel hk
  have hy := hg _ (getD_mem fs z45 i (by omega))
  have e1 : wrap64 ((i : Int) + 1) = ((i + 1 : Nat) : Int) := by rw [w64 (by omega) (by omega)]; omega
  rw [spec_InsertFact.l0, if_pos (by omega), if_pos (by omega), e1]
  unfold rd_T45
  rw [Int.toNat_natCast, cmpFS _ _ _ _ hy hv k (by omega), Option.bind_some, insAt]
  by_cases c : cmpF (fs.getD i z45).f0 (fs.getD i z45).f1 a vs < 0
  ·rw [if_pos c, if_pos c]
   exact ih (i + 1) (by omega) k (by omega)
  ·rw [if_neg c, if_neg c]
   simp only [Option.bind_some]
   rw [if_pos (by simp only [List.length_nil]; omega), if_pos (by omega), if_pos (by simp only [List.length_cons, List.length_nil, List.length_drop]; omega), if_pos (by simp only [List.length_nil, List.length_take]; omega), if_pos (by simp only [List.nil_append, List.length_append, List.length_cons, List.length_nil, List.length_drop, List.length_take]; omega)]
   simp
theorem insS (l : List S74) (hl : l.length ≤ 1048576) (fs : List S45) (hf : fs.length ≤ 1048576) (hg : ∀ y ∈ fs, y.f1.length ≤ 1048576) (a : Int) (vs : List Int) (hv : vs.length ≤ 1048576) (k : Nat) (hk : 8000001 < k) :
  spec_InsertFact.f k l fs a vs = some (if mayIns l fs a vs = true then (l, insF fs a vs, true) else (l, fs, false)) := by
 obtain ⟨k, rfl⟩ : ∃ z, k = z + 1 := ⟨k - 1, by omega⟩
 unfold spec_InsertFact.f mayIns
 rw [copyS l hl fs hf hg _ (by omega), Option.bind_some, vDS l hl fs hf hg _ (by omega), Option.bind_some]
 by_cases h0 : vDb l fs = true
 ·obtain ⟨q1, q2, q3, q4⟩ := vDb_parts l fs h0
  rw [if_pos h0, vFS l hl a vs hv _ (by omega), Option.bind_some]
  unfold vFact
  rw [q1, Bool.true_and, h0, Bool.true_and]
  by_cases h1 : fits l a vs = true
  ·rw [if_pos h1, hasS l hl fs hf hg a vs hv _ (by omega), Option.bind_some, h0, h1]
   by_cases h2 : idxW (factIs a vs) fs 0 ≥ 0
   ·rw [if_pos (by simpa using h2), spec_InsertFact.j0, if_pos rfl, decide_eq_false (show ¬ idxW (factIs a vs) fs 0 < 0 by omega)]
    simp
   ·rw [if_neg (by simpa using h2), decide_eq_true (show idxW (factIs a vs) fs 0 < 0 by omega), spec_InsertFact.j0]
    by_cases h3 : fs.length = 14
    ·rw [if_pos (by rw [h3]; rfl), decide_eq_false (by omega)]
     simp
    ·rw [if_neg (by rw [beq_iff_eq]; omega), decide_eq_true h3, if_pos (by simp)]
     have := insSl l fs hf hg a vs hv fs.length 0 (by omega) k (by omega)
     exact this
  ·rw [if_neg h1, spec_InsertFact.j0, if_pos rfl, Bool.eq_false_iff.2 h1]
   simp
 ·rw [if_neg h0, spec_InsertFact.j0, if_pos rfl, Bool.eq_false_iff.2 h0]
  simp
theorem copyIl (l : List S74) (fs : List S45) (hf : fs.length ≤ 1048576) (hg : ∀ y ∈ fs, y.f1.length ≤ 1048576) (d : Nat) : ∀ (i : Nat), i + d = fs.length → ∀ k, d < k → impl_copyDatabase.l0 k fs fs.length i l (fs.take i) = some (l, fs) := by
 induction d with
 | zero =>
  intro i hd k hk
  obtain ⟨k, rfl, hk⟩ := fuel hk
  rw [impl_copyDatabase.l0, if_neg (by omega), List.take_of_length_le (by omega)]
 | succ d ih =>
  intro i hd k hk
  obtain ⟨k, rfl, hk⟩ := fuel hk
  have hy := hg _ (getD_mem fs z45 i (by omega))
  rw [impl_copyDatabase.l0, if_pos (by omega), if_pos (by omega), if_pos (by omega), Option.bind_some]
  unfold rd_T45
  rw [Int.toNat_natCast, if_pos (by simp only [List.length_nil]; omega), if_pos (by rw [List.length_take]; omega), List.nil_append, show wrap64 ((i : Int) + 1) = ((i + 1 : Nat) : Int) by rw [w64 (by omega) (by omega)]; omega]
  rw [show fs.take i ++ [(⟨(fs.getD i z45).f0, (fs.getD i z45).f1⟩ : S45)] = fs.take (i + 1) by rw [List.take_succ_eq_append_getElem (by omega), getD_lt fs _ i (by omega)]]
  exact ih (i + 1) (by omega) k (by omega)
theorem copyI (l : List S74) (hl : l.length ≤ 1048576) (fs : List S45) (hf : fs.length ≤ 1048576) (hg : ∀ y ∈ fs, y.f1.length ≤ 1048576) (k : Nat) (hk : fs.length < k) : impl_copyDatabase.f k l fs = some (l, fs) := by
 unfold impl_copyDatabase.f
 rw [Option.bind_some, if_pos (by simp only [List.length_nil]; omega), List.nil_append]
 exact copyIl l fs hf hg fs.length 0 (by omega) k hk
theorem idxW_rng {α : Type} (p : α → Bool) : ∀ (l : List α) (i : Int), idxW p l i = -1 ∨ (i ≤ idxW p l i ∧ idxW p l i < i + l.length)
 | [], i => .inl rfl
 | x :: xs, i => by
  rw [idxW, List.length_cons]
  split
  ·right; omega
  ·rcases idxW_rng p xs (i + 1) with h | h
   ·exact .inl h
   ·right; omega
theorem hasI2 (l : List S74) (fs : List S45) (a : Int) (vs : List Int) : impl_ContainsFact.f l fs a vs = some (vDb l fs && decide (idxW (factIs a vs) fs 0 ≥ 0)) := by
 unfold impl_ContainsFact.f impl_IsValidDatabase.f impl_FactIndex.f
 rw [Option.bind_some]
 by_cases h : vDb l fs = true
 ·rw [if_pos h, Option.bind_some, h, Bool.true_and]
 ·rw [if_neg h, Bool.eq_false_iff.2 h, Bool.false_and]
def delR (l : List S74) (fs : List S45) (a : Int) (vs : List Int) : List S74 × List S45 × Bool := if (vDb l fs && decide (idxW (factIs a vs) fs 0 ≥ 0)) = true then (l, fs.eraseIdx (idxW (factIs a vs) fs 0).toNat, true) else (l, fs, false)
theorem delB (l : List S74) (hl : l.length ≤ 1048576) (fs : List S45) (hf : fs.length ≤ 1048576) (hg : ∀ y ∈ fs, y.f1.length ≤ 1048576) (a : Int) (vs : List Int) (hv : vs.length ≤ 1048576) (k : Nat) (hk : 8000000 < k) : spec_DeleteFact.f k l fs a vs = some (delR l fs a vs) ∧ impl_DeleteFact.f k l fs a vs = some (delR l fs a vs) := by
 unfold spec_DeleteFact.f impl_DeleteFact.f delR
 rw [copyS l hl fs hf hg k (by omega), Option.bind_some, hasS l hl fs hf hg a vs hv k (by omega), Option.bind_some, copyI l hl fs hf hg k (by omega), Option.bind_some, hasI2, Option.bind_some]
 by_cases h : (vDb l fs && decide (idxW (factIs a vs) fs 0 ≥ 0)) = true
 ·have hp := h
  rw [Bool.and_eq_true, decide_eq_true_iff] at hp
  have hr := idxW_rng (factIs a vs) fs 0
  have hi : idxW (factIs a vs) fs 0 ≥ 0 ∧ idxW (factIs a vs) fs 0 < (fs.length : Int) := by omega
  rw [if_pos h, if_pos h, if_pos h, fidxS l fs hf hg a vs hv k (by omega), Option.bind_some, impl_FactIndex.f, Option.bind_some]
  obtain ⟨i, hi'⟩ : ∃ i : Nat, idxW (factIs a vs) fs 0 = (i : Int) := ⟨(idxW (factIs a vs) fs 0).toNat, by omega⟩
  rw [hi']
  have hil : i < fs.length := by omega
  have e1 : wrap64 ((i : Int) + 1) = ((i + 1 : Nat) : Int) := by rw [w64 (by omega) (by omega)]; omega
  rw [e1]
  constructor
  ·simp only [Option.bind_some, Int.toNat_natCast]
   rw [if_pos (by omega), if_pos (by omega), if_pos (by simp only [List.length_nil, List.length_take]; omega), if_pos (by omega), if_pos (by omega), if_pos (by simp only [List.nil_append, List.length_take, List.length_drop]; omega), List.nil_append, List.eraseIdx_eq_take_drop_succ]
  ·unfold impl_Fact_54.f
   rw [Option.bind_some]
   dsimp only
   rw [if_pos ⟨by omega, by omega, by omega⟩, Option.bind_some]
 ·rw [if_neg h, if_neg h, if_neg h]
  exact ⟨rfl, rfl⟩
theorem insIl (l : List S74) (fs : List S45) (hf : fs.length ≤ 1048576) (hg : ∀ y ∈ fs, y.f1.length ≤ 1048576) (a : Int) (vs : List Int) (hv : vs.length ≤ 1048576) (d : Nat) : ∀ (i : Nat), i + d = fs.length → ∀ k, d + 2097160 < k → impl_InsertFact.l0 k i l fs a vs l fs = some (l, fs.take (insAt fs a vs d i) ++ ⟨a, vs⟩ :: fs.drop (insAt fs a vs d i), true) := by
 have hi : ∀ (k i : Nat), i ≤ fs.length → ((some (([] : List Int) : List Int)).bind fun y => (if y.length + vs.length < 17592186044416 then ((impl_Fact_52.f fs (i : Int) (([(⟨a, (y ++ vs)⟩ : S45)] : List (S45)))).bind fun t => (some (l, t, true))) else (none))) = some (l, fs.take i ++ ⟨a, vs⟩ :: fs.drop i, true) := by
  intro k i hi
  rw [Option.bind_some, if_pos (by simp only [List.length_nil]; omega), List.nil_append]
  unfold impl_Fact_52.f
  rw [if_pos ⟨by omega, by omega, rfl, by omega⟩, Option.bind_some, Int.toNat_natCast, List.append_assoc, List.singleton_append]
 induction d with
 | zero =>
  intro i hd k hk
  obtain ⟨k, rfl, hk⟩ := fuel hk
  rw [impl_InsertFact.l0, if_neg (by omega), insAt]
  exact hi k i (by omega)
 | succ d ih =>
  intro i hd k hk
  obtain ⟨k, rfl, hk⟩ := fuel hk
  have hy := hg _ (getD_mem fs z45 i (by omega))
  have e1 : wrap64 ((i : Int) + 1) = ((i + 1 : Nat) : Int) := by rw [w64 (by omega) (by omega)]; omega
  rw [impl_InsertFact.l0, if_pos (by omega), if_pos (by omega), e1]
  unfold rd_T45
  rw [Int.toNat_natCast, cmpFI _ _ _ _ (by omega) (by omega) k (by omega), Option.bind_some, insAt]
  by_cases c : cmpF (fs.getD i z45).f0 (fs.getD i z45).f1 a vs < 0
  ·rw [if_pos c, if_pos c]
   exact ih (i + 1) (by omega) k (by omega)
  ·rw [if_neg c, if_neg c]
   exact hi k i (by omega)
def insR (l : List S74) (fs : List S45) (a : Int) (vs : List Int) : List S74 × List S45 × Bool := if mayIns l fs a vs = true then (l, insF fs a vs, true) else (l, fs, false)
theorem insI (l : List S74) (hl : l.length ≤ 1048576) (fs : List S45) (hf : fs.length ≤ 1048576) (hg : ∀ y ∈ fs, y.f1.length ≤ 1048576) (a : Int) (vs : List Int) (hv : vs.length ≤ 1048576) (k : Nat) (hk : 8000001 < k) :
  impl_InsertFact.f k l fs a vs = some (insR l fs a vs) := by
 obtain ⟨k, rfl⟩ : ∃ z, k = z + 1 := ⟨k - 1, by omega⟩
 unfold impl_InsertFact.f insR mayIns impl_IsValidDatabase.f impl_FactIndex.f
 rw [copyI l hl fs hf hg _ (by omega), Option.bind_some, Option.bind_some]
 by_cases h0 : vDb l fs = true
 ·rw [if_pos h0, fitI l (by omega), Option.bind_some, h0, Bool.true_and]
  by_cases h1 : fits l a vs = true
  ·rw [if_pos h1, Option.bind_some, h1, Bool.true_and]
   by_cases h2 : idxW (factIs a vs) fs 0 ≥ 0
   ·rw [if_pos h2, impl_InsertFact.j0, if_pos rfl, decide_eq_false (show ¬ idxW (factIs a vs) fs 0 < 0 by omega)]
    simp
   ·rw [if_neg h2, decide_eq_true (show idxW (factIs a vs) fs 0 < 0 by omega), impl_InsertFact.j0]
    by_cases h3 : fs.length = 14
    ·rw [if_pos (by rw [h3]; rfl), decide_eq_false (by omega)]
     simp
    ·rw [if_neg (by rw [beq_iff_eq]; omega), decide_eq_true h3, if_pos (by simp)]
     have := insIl l fs hf hg a vs hv fs.length 0 (by omega) k (by omega)
     exact this
  ·rw [if_neg h1, impl_InsertFact.j0, if_pos rfl, Bool.eq_false_iff.2 h1]
   simp
 ·rw [if_neg h0, impl_InsertFact.j0, if_pos rfl, Bool.eq_false_iff.2 h0]
  simp
theorem insB (l : List S74) (hl : l.length ≤ 1048576) (fs : List S45) (hf : fs.length ≤ 1048576) (hg : ∀ y ∈ fs, y.f1.length ≤ 1048576) (a : Int) (vs : List Int) (hv : vs.length ≤ 1048576) (k : Nat) (hk : 8000001 < k) : spec_InsertFact.f k l fs a vs = some (insR l fs a vs) ∧ impl_InsertFact.f k l fs a vs = some (insR l fs a vs) :=
 ⟨insS l hl fs hf hg a vs hv k hk, insI l hl fs hf hg a vs hv k hk⟩
theorem cmpI_trans : ∀ (x y z : List Int), cmpI x y < 0 → cmpI y z < 0 → cmpI x z < 0
 | [], _, [], _, h2 => by cases ‹List Int› <;> simp [cmpI] at h2
 | [], _, _ :: _, _, _ => by simp [cmpI]
 | _ :: _, [], _, h1, _ => by simp [cmpI] at h1
 | _ :: _, _ :: _, [], _, h2 => by simp [cmpI] at h2
 | x :: xs, y :: ys, z :: zs, h1, h2 => by
  rw [cmpI] at h1 h2 ⊢
  by_cases a1 : x < y
  ·by_cases a2 : y < z
   ·rw [if_pos (by omega)]; decide
   ·rw [if_neg a2] at h2
    by_cases a3 : y > z
    ·rw [if_pos a3] at h2; omega
    ·rw [if_pos (by omega)]; decide
  ·rw [if_neg a1] at h1
   by_cases a4 : x > y
   ·rw [if_pos a4] at h1; omega
   ·rw [if_neg a4] at h1
    by_cases a2 : y < z
    ·rw [if_pos (by omega)]; decide
    ·rw [if_neg a2] at h2
     by_cases a3 : y > z
     ·rw [if_pos a3] at h2; omega
     ·rw [if_neg a3] at h2
      rw [if_neg (by omega), if_neg (by omega)]
      exact cmpI_trans xs ys zs h1 h2
theorem cmpF_lt (a : Int) (x : List Int) (b : Int) (y : List Int) : cmpF a x b y < 0 ↔ a < b ∨ (a = b ∧ cmpI x y < 0) := by
 unfold cmpF
 by_cases h1 : a < b
 ·rw [if_pos h1]; simp [h1]
 ·rw [if_neg h1]
  by_cases h2 : a > b
  ·rw [if_pos h2]
   constructor
   ·intro h; omega
   ·intro h; omega
  ·rw [if_neg h2]
   constructor
   ·intro h; exact .inr ⟨by omega, h⟩
   ·intro h
    rcases h with h | h
    ·omega
    ·exact h.2
theorem cmpF_trans (a : Int) (x : List Int) (b : Int) (y : List Int) (c : Int) (z : List Int) (h1 : cmpF a x b y < 0) (h2 : cmpF b y c z < 0) : cmpF a x c z < 0 := by
 rw [cmpF_lt] at h1 h2 ⊢
 rcases h1 with h1 | ⟨h1, h1'⟩ <;> rcases h2 with h2 | ⟨h2, h2'⟩
 ·exact .inl (by omega)
 ·exact .inl (by omega)
 ·exact .inl (by omega)
 ·exact .inr ⟨by omega, cmpI_trans _ _ _ h1' h2'⟩
theorem cmpI_tri : ∀ (x y : List Int), cmpI x y < 0 ∨ x = y ∨ cmpI y x < 0
 | [], [] => .inr (.inl rfl)
 | [], _ :: _ => .inl (by simp [cmpI])
 | _ :: _, [] => .inr (.inr (by simp [cmpI]))
 | x :: xs, y :: ys => by
  rw [cmpI, cmpI]
  by_cases a1 : x < y
  ·rw [if_pos a1]; exact .inl (by decide)
  ·by_cases a2 : x > y
   ·exact .inr (.inr (by rw [if_pos (show y < x from a2)]; decide))
   ·have : x = y := by omega
    subst this
    rw [if_neg a1, if_neg a2, if_neg a1, if_neg a2]
    rcases cmpI_tri xs ys with h | h | h
    ·exact .inl h
    ·exact .inr (.inl (by rw [h]))
    ·exact .inr (.inr h)
theorem cmpI_self : ∀ xs : List Int, cmpI xs xs = 0
 | [] => rfl
 | x :: xs => by rw [cmpI, if_neg (by omega), if_neg (by omega), cmpI_self xs]
theorem cmpF_self (a : Int) (x : List Int) : cmpF a x a x = 0 := by
 unfold cmpF; rw [if_neg (by omega), if_neg (by omega), cmpI_self]
def Rf (x y : S45) : Prop := cmpF x.f0 x.f1 y.f0 y.f1 < 0
theorem Rf_tr {x y z : S45} (h1 : Rf x y) (h2 : Rf y z) : Rf x z := cmpF_trans _ _ _ _ _ _ h1 h2
theorem Rf_ir (x : S45) : ¬ Rf x x := by unfold Rf; rw [cmpF_self]; decide
theorem Rf_tri (x y : S45) : Rf x y ∨ x = y ∨ Rf y x := by
 unfold Rf
 rw [cmpF_lt, cmpF_lt]
 rcases Int.lt_trichotomy x.f0 y.f0 with h | h | h
 ·exact .inl (.inl h)
 ·rcases cmpI_tri x.f1 y.f1 with g | g | g
  ·exact .inl (.inr ⟨h, g⟩)
  ·refine .inr (.inl ?_)
   cases x; cases y
   dsimp only at h g
   subst h; subst g; rfl
  ·exact .inr (.inr (.inr ⟨h.symm, g⟩))
 ·exact .inr (.inr (.inl h))
theorem factIs_self (a : Int) (vs : List Int) : factIs a vs ⟨a, vs⟩ = true := by unfold factIs; rw [cmpF_self]; rfl
theorem factIs_lt (a : Int) (vs : List Int) (y : S45) (h : Rf y ⟨a, vs⟩) : factIs a vs y = false := by
 unfold factIs
 have : cmpF y.f0 y.f1 a vs < 0 := h
 rw [beq_eq_false_iff_ne]; omega
theorem factIs_eq (a : Int) (vs : List Int) (y : S45) (h : factIs a vs y = true) : y = ⟨a, vs⟩ := by
 unfold factIs at h
 rw [beq_iff_eq] at h
 rcases Rf_tri y ⟨a, vs⟩ with g | g | g
 ·have : cmpF y.f0 y.f1 a vs < 0 := g
  omega
 ·exact g
 ·exfalso
  have g' : cmpF a vs y.f0 y.f1 < 0 := g
  rw [cmpF_lt] at g'
  unfold cmpF at h
  by_cases h1 : y.f0 < a
  ·rw [if_pos h1] at h; omega
  ·rw [if_neg h1] at h
   by_cases h2 : y.f0 > a
   ·rw [if_pos h2] at h; omega
   ·rw [if_neg h2] at h
    rcases g' with g' | ⟨_, g'⟩
    ·omega
    ·have hz : ∀ x y : List Int, cmpI x y = 0 → cmpI y x < 0 → False := by
      intro x
      induction x with
      | nil => intro y e1 e2; cases y <;> simp [cmpI] at e1 e2
      | cons u us ih =>
       intro y e1 e2
       cases y with
       | nil => simp [cmpI] at e1
       | cons v ws =>
        rw [cmpI] at e1 e2
        by_cases c1 : u < v
        ·rw [if_pos c1] at e1; omega
        ·by_cases c2 : u > v
         ·rw [if_neg c1, if_pos c2] at e1; omega
         ·rw [if_neg c1, if_neg c2] at e1
          rw [if_neg (by omega), if_neg (by omega)] at e2
          exact ih ws e1 e2
     exact hz _ _ h g'
theorem factIs_ne (a : Int) (vs : List Int) (y : S45) (h : Rf ⟨a, vs⟩ y) : factIs a vs y = false := by
 rcases hb : factIs a vs y with _ | _
 ·rfl
 ·rw [factIs_eq a vs y hb] at h
  exact absurd h (Rf_ir _)
theorem idxW_at {α : Type} (p : α → Bool) (x : α) (B : List α) (hx : p x = true) : ∀ (A : List α) (i : Int), (∀ y ∈ A, p y = false) → idxW p (A ++ x :: B) i = i + A.length
 | [], i, _ => by rw [List.nil_append, idxW, if_pos hx]; simp
 | y :: A, i, h => by
  rw [List.cons_append, idxW, if_neg (by rw [h y (List.mem_cons_self ..)]; decide), idxW_at p x B hx A (i + 1) (fun z hz => h z (List.mem_cons_of_mem _ hz)), List.length_cons]
  omega
theorem idxW_no {α : Type} (p : α → Bool) : ∀ (A : List α) (i : Int), (∀ y ∈ A, p y = false) → idxW p A i = -1
 | [], i, _ => rfl
 | y :: A, i, h => by rw [idxW, if_neg (by rw [h y (List.mem_cons_self ..)]; decide), idxW_no p A (i + 1) (fun z hz => h z (List.mem_cons_of_mem _ hz))]
theorem idxW_split {α : Type} (p : α → Bool) : ∀ (l : List α) (i : Int), 0 ≤ i → idxW p l i = -1 ∧ (∀ y ∈ l, p y = false) ∨ ∃ A x B, l = A ++ x :: B ∧ p x = true ∧ (∀ y ∈ A, p y = false) ∧ idxW p l i = i + A.length
 | [], i, _ => .inl ⟨rfl, by simp⟩
 | y :: l, i, h0 => by
  rcases hy : p y with _ | _
  ·rcases idxW_split p l (i + 1) (by omega) with ⟨h, g⟩ | ⟨A, x, B, rfl, hx, hA, h⟩
   ·left
    refine ⟨by rw [idxW, if_neg (by rw [hy]; decide), h], fun z hz => ?_⟩
    rcases List.mem_cons.1 hz with rfl | hz
    ·exact hy
    ·exact g z hz
   ·right
    refine ⟨y :: A, x, B, rfl, hx, fun z hz => ?_, by rw [idxW, if_neg (by rw [hy]; decide), h, List.length_cons]; omega⟩
    rcases List.mem_cons.1 hz with rfl | hz
    ·exact hy
    ·exact hA z hz
  ·right
   exact ⟨[], y, l, rfl, hy, by simp, by rw [idxW, if_pos hy]; simp⟩
theorem okFrom_of (l : List S74) (fs : List S45) (h : ∀ j, j < fs.length → fits l (fs.getD j z45).f0 (fs.getD j z45).f1 = true ∧ (j = 0 ∨ cmpF (fs.getD (j - 1) z45).f0 (fs.getD (j - 1) z45).f1 (fs.getD j z45).f0 (fs.getD j z45).f1 < 0)) : okFrom l fs fs.length 0 = true := by
 have hA : ∀ (d i : Nat), i + d = fs.length → okFrom l fs d i = true := by
  intro d
  induction d with
  | zero => intro i _; rfl
  | succ d ih =>
   intro i hd
   rw [okFrom, ih (i + 1) (by omega), Bool.and_true, Bool.and_eq_true, Bool.or_eq_true, decide_eq_true_iff, decide_eq_true_iff]
   exact h i (by omega)
 exact hA fs.length 0 (by omega)
theorem vDb_lt (l : List S74) (fs : List S45) (h : vDb l fs = true) (i : Nat) : ∀ (d : Nat), i + d + 1 < fs.length → cmpF (fs.getD i z45).f0 (fs.getD i z45).f1 (fs.getD (i + d + 1) z45).f0 (fs.getD (i + d + 1) z45).f1 < 0
 | 0, hd => (vDb_parts l fs h).2.2.2 (i + 1) (by omega) hd
 | d + 1, hd => cmpF_trans _ _ _ _ _ _ (vDb_lt l fs h i d (by omega)) ((vDb_parts l fs h).2.2.2 (i + (d + 1) + 1) (by omega) hd)
theorem vDb_iff (l : List S74) (fs : List S45) : vDb l fs = true ↔ vRels l = true ∧ fs.length ≤ 14 ∧ (∀ y ∈ fs, fits l y.f0 y.f1 = true) ∧ fs.Pairwise Rf := by
 constructor
 ·intro h
  obtain ⟨q1, q2, q3, q4⟩ := vDb_parts l fs h
  refine ⟨q1, q2, fun y hy => ?_, ?_⟩
  ·obtain ⟨j, hj, rfl⟩ := List.mem_iff_getElem.1 hy
   have := q3 j hj
   rwa [getD_lt fs _ j hj] at this
  ·rw [List.pairwise_iff_getElem]
   intro i j hi hj hij
   have := vDb_lt l fs h i (j - i - 1) (by omega)
   rw [show i + (j - i - 1) + 1 = j by omega, getD_lt fs _ i hi, getD_lt fs _ j hj] at this
   exact this
 ·rintro ⟨q1, q2, q3, q4⟩
  unfold vDb
  rw [q1, decide_eq_true q2, okFrom_of l fs fun j hj => ?_]
  ·rfl
  ·rw [getD_lt fs _ j hj]
   refine ⟨q3 _ (List.getElem_mem hj), ?_⟩
   rcases Nat.eq_zero_or_pos j with c | c
   ·exact .inl c
   ·right
    rw [getD_lt fs _ (j - 1) (by omega)]
    exact (List.pairwise_iff_getElem.1 q4) (j - 1) j (by omega) hj (by omega)
noncomputable def pf (a : Int) (vs : List Int) (y : S45) : Bool := decide (cmpF y.f0 y.f1 a vs < 0)
theorem insAt_tw (fs : List S45) (a : Int) (vs : List Int) : ∀ (d i : Nat), i + d = fs.length → insAt fs a vs d i = i + ((fs.drop i).takeWhile (pf a vs)).length
 | 0, i, hd => by rw [insAt, List.drop_eq_nil_of_le (by omega)]; rfl
 | d + 1, i, hd => by
  rw [insAt, getD_lt fs _ i (by omega), List.drop_eq_getElem_cons (by omega), List.takeWhile_cons]
  unfold pf
  by_cases c : cmpF fs[i].f0 fs[i].f1 a vs < 0
  ·rw [if_pos c, if_pos (by rw [decide_eq_true c]), insAt_tw fs a vs d (i + 1) (by omega), List.length_cons]
   unfold pf
   omega
  ·rw [if_neg c, if_neg (by rw [decide_eq_false c]; decide)]
   rfl
theorem insF_split (fs : List S45) (a : Int) (vs : List Int) : ∃ A B, fs = A ++ B ∧ insF fs a vs = A ++ ⟨a, vs⟩ :: B ∧ (∀ y ∈ A, Rf y ⟨a, vs⟩) ∧ (∀ b, B.head? = some b → ¬ Rf b ⟨a, vs⟩) := by
 have h0 := insAt_tw fs a vs fs.length 0 (by omega)
 rw [List.drop_zero, Nat.zero_add] at h0
 have hp : fs.takeWhile (pf a vs) ++ fs.dropWhile (pf a vs) = fs := List.takeWhile_append_dropWhile
 refine ⟨fs.takeWhile (pf a vs), fs.dropWhile (pf a vs), hp.symm, ?_, fun y hy => ?_, fun b hb => ?_⟩
 ·unfold insF
  rw [h0]
  congr 1
  ·conv => lhs; arg 2; rw [← hp]
   exact List.take_left' rfl
  ·congr 1
   conv => lhs; arg 2; rw [← hp]
   exact List.drop_left' rfl
 ·have hall : ∀ (l : List S45), ∀ y ∈ l.takeWhile (pf a vs), pf a vs y = true := by
   intro l
   induction l with
   | nil => intro y hy; simp at hy
   | cons x l ih =>
    intro y hy
    rw [List.takeWhile_cons] at hy
    split at hy
    ·rename_i hx
     rcases List.mem_cons.1 hy with rfl | hy
     ·exact hx
     ·exact ih y hy
    ·simp at hy
  have := hall fs y hy
  unfold pf at this
  have h2 : cmpF y.f0 y.f1 a vs < 0 := of_decide_eq_true this
  exact h2
 ·have hh : ∀ (l : List S45) b, (l.dropWhile (pf a vs)).head? = some b → pf a vs b = false := by
   intro l
   induction l with
   | nil => intro b hb; simp at hb
   | cons x l ih =>
    intro b hb
    rw [List.dropWhile_cons] at hb
    split at hb
    ·exact ih b hb
    ·rename_i hx
     simp only [List.head?_cons, Option.some.injEq] at hb
     subst hb
     simpa using hx
  have := hh fs b hb
  unfold pf at this
  have h2 : ¬ cmpF b.f0 b.f1 a vs < 0 := of_decide_eq_false this
  exact h2
theorem ins_law (l : List S74) (fs : List S45) (a : Int) (vs : List Int) (h : mayIns l fs a vs = true) :
  vDb l fs = true ∧ fits l a vs = true ∧ idxW (factIs a vs) fs 0 < 0 ∧ vDb l (insF fs a vs) = true ∧ 0 ≤ idxW (factIs a vs) (insF fs a vs) 0 ∧ (insF fs a vs).eraseIdx (idxW (factIs a vs) (insF fs a vs) 0).toNat = fs := by
 unfold mayIns at h
 rw [Bool.and_eq_true, Bool.and_eq_true, Bool.and_eq_true, decide_eq_true_iff, decide_eq_true_iff] at h
 obtain ⟨⟨⟨h1, h2⟩, h3⟩, h4⟩ := h
 obtain ⟨q1, q2, q3, q4⟩ := (vDb_iff l fs).1 h1
 have hno : ∀ y ∈ fs, factIs a vs y = false := by
  rcases idxW_split (factIs a vs) fs 0 (by omega) with ⟨_, h⟩ | ⟨A, x, B, _, _, _, h⟩
  ·exact h
  ·omega
 obtain ⟨A, B, hAB, hI, hA, hB⟩ := insF_split fs a vs
 have hix : idxW (factIs a vs) (insF fs a vs) 0 = A.length := by
  rw [hI, idxW_at _ _ _ (factIs_self a vs) A 0 (fun y hy => factIs_lt a vs y (hA y hy))]
  omega
 refine ⟨h1, h2, h3, ?_, by omega, ?_⟩
 ·rw [vDb_iff]
  refine ⟨q1, by rw [insF_len]; omega, fun y hy => ?_, ?_⟩
  ·rcases (insF_mem fs a vs y).1 hy with h | h
   ·exact q3 y h
   ·rw [h]; exact h2
  ·have qq := q4
   rw [hAB, List.pairwise_append] at qq
   obtain ⟨p1, p2, p3⟩ := qq
   have hBa : ∀ b ∈ B, Rf ⟨a, vs⟩ b := by
    intro b hb
    cases B with
    | nil => simp at hb
    | cons c B =>
     have hc : Rf ⟨a, vs⟩ c := by
      rcases Rf_tri c ⟨a, vs⟩ with g | g | g
      ·exact absurd g (hB c rfl)
      ·have := hno c (by rw [hAB]; simp)
       rw [g, factIs_self] at this
       exact absurd this (by decide)
      ·exact g
     rcases List.mem_cons.1 hb with rfl | hb
     ·exact hc
     ·exact Rf_tr hc ((List.pairwise_cons.1 p2).1 b hb)
   rw [hI, List.pairwise_append]
   refine ⟨p1, List.pairwise_cons.2 ⟨hBa, p2⟩, fun x hx y hy => ?_⟩
   rcases List.mem_cons.1 hy with rfl | hy
   ·exact hA x hx
   ·exact p3 x hx y hy
 ·rw [hix, Int.toNat_natCast, hI, List.eraseIdx_append_of_length_le (Nat.le_refl _), Nat.sub_self, List.eraseIdx_cons_zero]
  exact hAB.symm
theorem del_law (l : List S74) (fs : List S45) (a : Int) (vs : List Int) (h1 : vDb l fs = true) (h2 : 0 ≤ idxW (factIs a vs) fs 0) :
  mayIns l (fs.eraseIdx (idxW (factIs a vs) fs 0).toNat) a vs = true ∧ insF (fs.eraseIdx (idxW (factIs a vs) fs 0).toNat) a vs = fs := by
 obtain ⟨q1, q2, q3, q4⟩ := (vDb_iff l fs).1 h1
 rcases idxW_split (factIs a vs) fs 0 (by omega) with ⟨h, _⟩ | ⟨A, x, B, hAB, hx, hA, h⟩
 ·omega
 ·rw [h, Int.zero_add, Int.toNat_natCast]
  rw [factIs_eq a vs x hx] at hAB
  clear hx h h2
  subst hAB
  rw [List.eraseIdx_append_of_length_le (Nat.le_refl _), Nat.sub_self, List.eraseIdx_cons_zero]
  obtain ⟨p1, p2, p3⟩ := List.pairwise_append.1 q4
  obtain ⟨p4, p5⟩ := List.pairwise_cons.1 p2
  have hAq : ∀ y ∈ A, Rf y ⟨a, vs⟩ := fun y hy => p3 y hy _ (List.mem_cons_self ..)
  have hlen : (A ++ (⟨a, vs⟩ : S45) :: B).length = (A ++ B).length + 1 := by simp only [List.length_append, List.length_cons]; omega
  have hno : idxW (factIs a vs) (A ++ B) 0 = -1 := idxW_no _ _ _ (fun y hy => by
   rcases List.mem_append.1 hy with hy | hy
   ·exact factIs_lt a vs y (hAq y hy)
   ·exact factIs_ne a vs y (p4 y hy))
  refine ⟨?_, ?_⟩
  ·unfold mayIns
   rw [Bool.and_eq_true, Bool.and_eq_true, Bool.and_eq_true, decide_eq_true_iff, decide_eq_true_iff, hno]
   refine ⟨⟨⟨(vDb_iff _ _).2 ⟨q1, by omega, fun y hy => q3 y ?_, ?_⟩, q3 ⟨a, vs⟩ (by simp)⟩, by omega⟩, by omega⟩
   ·rcases List.mem_append.1 hy with hy | hy
    ·exact List.mem_append.2 (.inl hy)
    ·exact List.mem_append.2 (.inr (List.mem_cons_of_mem _ hy))
   ·exact List.pairwise_append.2 ⟨p1, p5, fun x hx y hy => p3 x hx y (List.mem_cons_of_mem _ hy)⟩
  ·have h0 := insAt_tw (A ++ B) a vs (A ++ B).length 0 (by omega)
   rw [List.drop_zero, Nat.zero_add] at h0
   have htw : ∀ (A : List S45), (∀ y ∈ A, Rf y ⟨a, vs⟩) → ((A ++ B).takeWhile (pf a vs)).length = A.length := by
    intro A
    induction A with
    | nil =>
     intro _
     rw [List.nil_append]
     cases B with
     | nil => rfl
     | cons b B =>
      rw [List.takeWhile_cons, if_neg]
      unfold pf
      rw [decide_eq_true_iff]
      intro g
      exact Rf_ir _ (Rf_tr (p4 b (List.mem_cons_self ..)) g)
    | cons y A ih =>
     intro hy
     rw [List.cons_append, List.takeWhile_cons, if_pos, List.length_cons, List.length_cons, ih (fun z hz => hy z (List.mem_cons_of_mem _ hz))]
     unfold pf
     exact decide_eq_true (hy y (List.mem_cons_self ..))
   unfold insF
   rw [h0, htw A hAq, List.take_left' rfl, List.drop_left' rfl]
theorem and255 (x : Int) : 0 ≤ Go.bits .and .i64 x 255 ∧ Go.bits .and .i64 x 255 ≤ 255 := by
 unfold Go.bits
 have h : (BitVec.ofInt IntKind.i64.bits x &&& BitVec.ofInt IntKind.i64.bits 255).toNat ≤ 255 := by
  rw [BitVec.toNat_and]
  exact Nat.le_trans Nat.and_le_right (by decide)
 simp only [IntKind.wrap_i64]
 omega
theorem l1ByteT (s : List Int) (hs : s.length ≤ 1048576) (i h : Int) (hi : 0 ≤ i) : ∃ x i' h', spec_l1Byte.f s i h = some (x, i', h') ∧ 0 ≤ x ∧ x ≤ 255 ∧ 0 ≤ i' := by
 unfold spec_l1Byte.f
 by_cases c : i < (s.length : Int)
 ·rw [if_pos c, if_pos hi]
  refine ⟨_, _, _, rfl, (and255 _).1, (and255 _).2, ?_⟩
  rw [w64 (by omega) (by omega)]
  omega
 ·rw [if_neg c]
  exact ⟨_, _, _, rfl, (and255 _).1, (and255 _).2, hi⟩
theorem l1BelowT (s : List Int) (hs : s.length ≤ 1048576) (i h n : Int) (hi : 0 ≤ i) : ∃ x i' h', spec_l1Below.f s i h n = some (x, i', h') ∧ 0 ≤ x ∧ (0 < n → x < n) ∧ (n ≤ 0 → x = 0) ∧ 0 ≤ i' := by
 unfold spec_l1Below.f
 by_cases c : n ≤ 0
 ·rw [if_pos c]
  exact ⟨_, _, _, rfl, by omega, by omega, fun _ => rfl, hi⟩
 ·rw [if_neg c]
  by_cases c2 : n ≤ 256
  ·obtain ⟨x, i1, h1, e1, a1, b1, d1⟩ := l1ByteT s hs i h hi
   rw [if_pos c2, e1, Option.bind_some, if_neg (by omega)]
   refine ⟨_, _, _, rfl, ?_, ?_, by omega, d1⟩
   ·rw [tm a1]; exact Int.emod_nonneg _ (by omega)
   ·intro _; rw [tm a1]; exact Int.emod_lt_of_pos _ (by omega)
  ·obtain ⟨x1, i1, h1, e1, a1, b1, d1⟩ := l1ByteT s hs i h hi
   obtain ⟨x2, i2, h2, e2, a2, b2, d2⟩ := l1ByteT s hs i1 h1 d1
   obtain ⟨x3, i3, h3, e3, a3, b3, d3⟩ := l1ByteT s hs i2 h2 d2
   obtain ⟨x4, i4, h4, e4, a4, b4, d4⟩ := l1ByteT s hs i3 h3 d3
   rw [if_neg c2, e1, Option.bind_some, e2, Option.bind_some, e3, Option.bind_some, e4, Option.bind_some, if_neg (by omega)]
   rw [w64 (n := x1 * 16777216) (by omega) (by omega), w64 (n := x2 * 65536) (by omega) (by omega), w64 (n := x3 * 256) (by omega) (by omega), w64 (n := x1 * 16777216 + x2 * 65536) (by omega) (by omega), w64 (n := x1 * 16777216 + x2 * 65536 + x3 * 256) (by omega) (by omega), w64 (n := x1 * 16777216 + x2 * 65536 + x3 * 256 + x4) (by omega) (by omega)]
   refine ⟨_, _, _, rfl, ?_, ?_, by omega, d4⟩
   ·rw [tm (by omega)]; exact Int.emod_nonneg _ (by omega)
   ·intro _; rw [tm (by omega)]; exact Int.emod_lt_of_pos _ (by omega)
theorem l1PickT (s : List Int) (hs : s.length ≤ 1048576) (i h : Int) (hi : 0 ≤ i) (l : List ByteArray) (hl : 0 < l.length) : ∃ x i' h', spec_l1Pick.f s i h l = some (x, i', h') ∧ x ∈ l ∧ 0 ≤ i' := by
 obtain ⟨x, i1, h1, e1, a1, b1, _, d1⟩ := l1BelowT s hs i h (l.length : Int) hi
 have := b1 (by omega)
 unfold spec_l1Pick.f
 rw [e1, Option.bind_some, if_pos a1, if_pos this]
 refine ⟨_, _, _, rfl, ?_, d1⟩
 unfold rdOf
 exact getD_mem l _ _ (by omega)
theorem l1PickIntT (s : List Int) (hs : s.length ≤ 1048576) (i h : Int) (hi : 0 ≤ i) (l : List Int) (hl : 0 < l.length) : ∃ x i' h', spec_l1PickInt.f s i h l = some (x, i', h') ∧ x ∈ l ∧ 0 ≤ i' := by
 obtain ⟨x, i1, h1, e1, a1, b1, _, d1⟩ := l1BelowT s hs i h (l.length : Int) hi
 have := b1 (by omega)
 unfold spec_l1PickInt.f
 rw [e1, Option.bind_some, if_pos a1, if_pos this]
 refine ⟨_, _, _, rfl, ?_, d1⟩
 unfold rd
 exact getD_mem l _ _ (by omega)
theorem l1NewL (s : List Int) (hs : s.length ≤ 1048576) (d : Nat) : ∀ (i : Nat) (h : Int), i + d = s.length → ∀ k, d < k → ∃ h', spec_l1New.l0 k s h i = some (s, 0, h') := by
 induction d with
 | zero =>
  intro i h hd k hk
  obtain ⟨k, rfl, hk⟩ := fuel hk
  rw [spec_l1New.l0, if_neg (by omega)]
  exact ⟨_, rfl⟩
 | succ d ih =>
  intro i h hd k hk
  obtain ⟨k, rfl, hk⟩ := fuel hk
  rw [spec_l1New.l0, if_pos (by omega)]
  by_cases c : (i : Int) < 4000
  ·rw [if_pos c, if_pos (by omega), show wrap64 ((i : Int) + 1) = ((i + 1 : Nat) : Int) by rw [w64 (by omega) (by omega)]; omega]
   exact ih (i + 1) _ (by omega) k (by omega)
  ·rw [if_neg c]
   exact ⟨_, rfl⟩
theorem l1NewT (s : List Int) (hs : s.length ≤ 1048576) (k : Nat) (hk : s.length < k) : ∃ h', spec_l1New.f k s = some (s, 0, h') := by
 unfold spec_l1New.f
 exact l1NewL s hs s.length 0 _ (by omega) k hk
def sigs (l : List S74) : Prop := l.length = 4 ∧ ∀ y ∈ l, 1 ≤ y.f1 ∧ y.f1 ≤ 3 ∧ y.f0.size ≤ 2
theorem l2SigsT (s : List Int) (hs : s.length ≤ 1048576) (i h : Int) (hi : 0 ≤ i) : ∃ l i' h', spec_l2Sigs.f s i h = some (l, i', h') ∧ sigs l ∧ 0 ≤ i' := by
 obtain ⟨x, i1, h1, e1, a1, d1⟩ := l1PickIntT s hs i h hi [1, 1, 2, 0] (by simp)
 obtain ⟨y, i2, h2, e2, a2, b2, _, d2⟩ := l1BelowT s hs i1 h1 2 d1
 unfold spec_l2Sigs.f
 rw [e1, Option.bind_some, e2, Option.bind_some]
 refine ⟨_, _, _, rfl, ⟨rfl, ?_⟩, d2⟩
 intro y hy
 simp only [List.mem_cons, List.not_mem_nil, or_false] at hy
 rcases hy with rfl | rfl | rfl | rfl
 ·exact ⟨by decide, by decide, by decide⟩
 ·exact ⟨by decide, by decide, by decide⟩
 ·exact ⟨by simp, by simp, by simp; decide⟩
 ·exact ⟨by simp, by simp, by simp; decide⟩
theorem l3FactL (s : List Int) (hs : s.length ≤ 1048576) (l : List S74) (v x : Int) (hv : 0 < v) (hx0 : 0 ≤ x) (hx1 : x < (l.length : Int)) (ha : (rd_T74 l x).f1 ≤ 3) (d : Nat) : ∀ (vs : List Int) (i h : Int), 0 ≤ i → vs.length + d = 4 → ∀ k, d < k → (∀ z ∈ vs, 0 ≤ z ∧ z < v) → ∃ ws i' h', spec_l3Fact.l0 k l v s i h x vs = some (x, ws, i', h') ∧ ws.length ≤ 4 ∧ ((vs.length : Int) ≤ (rd_T74 l x).f1 → (ws.length : Int) = (rd_T74 l x).f1) ∧ (∀ z ∈ ws, 0 ≤ z ∧ z < v) ∧ 0 ≤ i' := by
 induction d with
 | zero =>
  intro vs i h hi hd k hk hz
  obtain ⟨k, rfl, hk⟩ := fuel hk
  rw [spec_l3Fact.l0, if_pos hx0, if_pos hx1, if_neg (by omega)]
  exact ⟨_, _, _, rfl, by omega, by omega, hz, hi⟩
 | succ d ih =>
  intro vs i h hi hd k hk hz
  obtain ⟨k, rfl, hk⟩ := fuel hk
  rw [spec_l3Fact.l0, if_pos hx0, if_pos hx1]
  by_cases c : (vs.length : Int) < (rd_T74 l x).f1
  ·obtain ⟨y, i1, h1, e1, a1, b1, _, d1⟩ := l1BelowT s hs i h v hi
   rw [if_pos c, e1, Option.bind_some, if_pos (by omega)]
   obtain ⟨ws, i2, h2, g1, g2, g3, g4, g5⟩ := ih (vs ++ [y]) i1 h1 d1 (by simp; omega) k (by omega) (by
    intro z hz'
    rcases List.mem_append.1 hz' with hz' | hz'
    ·exact hz z hz'
    ·rw [List.mem_singleton] at hz'
     rw [hz']
     exact ⟨a1, b1 hv⟩)
   exact ⟨ws, i2, h2, g1, g2, fun _ => g3 (by simp; omega), g4, g5⟩
  ·rw [if_neg c]
   exact ⟨_, _, _, rfl, by omega, by omega, hz, hi⟩
theorem l3FactT (s : List Int) (hs : s.length ≤ 1048576) (i h : Int) (hi : 0 ≤ i) (l : List S74) (hl : 0 < l.length) (hl2 : l.length ≤ 1048576) (hg : ∀ y ∈ l, 0 ≤ y.f1 ∧ y.f1 ≤ 3) (v : Int) (hv : 0 < v) (k : Nat) (hk : 4 < k) : ∃ x ws i' h', spec_l3Fact.f k s i h l v = some (x, ws, i', h') ∧ 0 ≤ x ∧ x < (l.length : Int) ∧ ws.length ≤ 4 ∧ (ws.length : Int) = (rd_T74 l x).f1 ∧ (∀ z ∈ ws, 0 ≤ z ∧ z < v) ∧ 0 ≤ i' := by
 obtain ⟨x, i1, h1, e1, a1, b1, _, d1⟩ := l1BelowT s hs i h (l.length : Int) hi
 have hx := b1 (by omega)
 unfold spec_l3Fact.f
 rw [e1, Option.bind_some]
 have hm : (rd_T74 l x) ∈ l := by unfold rd_T74; exact getD_mem l _ _ (by omega)
 obtain ⟨ws, i2, h2, g1, g2, g3, g4, g5⟩ := l3FactL s hs l v x hv a1 hx (hg _ hm).2 4 [] i1 h1 d1 rfl k hk (fun z hz => by cases hz)
 exact ⟨x, ws, i2, h2, g1, a1, hx, g2, g3 (by have := (hg _ hm).1; simpa using this), g4, g5⟩
theorem l3AnyT (s : List Int) (hs : s.length ≤ 1048576) (i h : Int) (hi : 0 ≤ i) (l : List S74) (hl : 0 < l.length) (hl2 : l.length ≤ 1048576) (hg : ∀ y ∈ l, 1 ≤ y.f1 ∧ y.f1 ≤ 3) (k : Nat) (hk : 4 < k) : ∃ x ws i' h', spec_l3Any.f k s i h l = some (x, ws, i', h') ∧ ws.length ≤ 5 ∧ -1 ≤ x ∧ x ≤ 1048576 ∧ (∀ z ∈ ws, -1 ≤ z ∧ z ≤ 10) ∧ 0 ≤ i' := by
 obtain ⟨x, ws, i1, h1, e1, x0, x1, g2, g3, g4, g5⟩ := l3FactT s hs i h hi l hl hl2 (fun y hy => ⟨by have := (hg y hy).1; omega, (hg y hy).2⟩) 4 (by decide) k hk
 obtain ⟨y, i2, h2, e2, a2, b2, _, d2⟩ := l1BelowT s hs i1 h1 10 g5
 have hm : (rd_T74 l x) ∈ l := by unfold rd_T74; exact getD_mem l _ _ (by omega)
 have hw := (hg _ hm).1
 have hz : ∀ z ∈ ws, -1 ≤ z ∧ z ≤ 10 := fun z hz => by have := g4 z hz; omega
 unfold spec_l3Any.f
 rw [e1, Option.bind_some]
 dsimp only
 rw [e2, Option.bind_some]
 dsimp only
 by_cases c0 : y = 0
 ·obtain ⟨z, i3, h3, e3, a3, b3, _, d3⟩ := l1BelowT s hs i2 h2 6 d2
  have := b3 (by decide)
  rw [if_pos c0, e3, Option.bind_some]
  refine ⟨_, _, _, _, rfl, by omega, ?_, ?_, hz, d3⟩
  ·rw [w64 (by omega) (by omega)]; omega
  ·rw [w64 (by omega) (by omega)]; omega
 rw [if_neg c0]
 by_cases c1 : y = 1
 ·rw [if_pos c1, if_pos (by omega)]
  refine ⟨_, _, _, _, rfl, by simp; omega, by omega, by omega, ?_, d2⟩
  intro z hz'
  rcases List.mem_append.1 hz' with hz' | hz'
  ·exact hz z hz'
  ·rw [List.mem_singleton] at hz'
   omega
 rw [if_neg c1]
 by_cases c2 : y = 2
 ·obtain ⟨z, i3, h3, e3, a3, d3⟩ := l1PickIntT s hs i2 h2 d2 [-1, 10, 9] (by simp)
  rw [if_pos c2, e3, Option.bind_some, if_pos (by omega)]
  refine ⟨_, _, _, _, rfl, by rw [List.length_set]; omega, by omega, by omega, ?_, d3⟩
  intro u hu
  rcases List.mem_or_eq_of_mem_set hu with hu | hu
  ·exact hz u hu
  ·rw [hu]
   simp only [List.mem_cons, List.not_mem_nil, or_false] at a3
   rcases a3 with rfl | rfl | rfl <;> omega
 ·rw [if_neg c2]
  exact ⟨_, _, _, _, rfl, by omega, by omega, by omega, hz, d2⟩
def sm (fs : List S45) (n : Nat) : Prop := fs.length ≤ n ∧ ∀ y ∈ fs, y.f1.length ≤ 5
theorem l4DbL (s : List Int) (hs : s.length ≤ 1048576) (l : List S74) (hl : sigs l) (v : Int) (hv : 0 < v) (d : Nat) : ∀ (fs : List S45) (i h : Int), 0 ≤ i → d ≤ 20 → sm fs (40 - d) → ∀ k, 8000100 + d < k → ∃ gs i' h', spec_l4Db.l0 k v d s i h l fs = some (l, gs, i', h') ∧ sm gs 40 ∧ 0 ≤ i' := by
 induction d with
 | zero =>
  intro fs i h hi hd hf k hk
  obtain ⟨k, rfl⟩ : ∃ z, k = z + 1 := ⟨k - 1, by omega⟩
  rw [spec_l4Db.l0, if_neg (by omega)]
  exact ⟨_, _, _, rfl, hf, hi⟩
 | succ d ih =>
  intro fs i h hi hd hf k hk
  obtain ⟨k, rfl⟩ : ∃ z, k = z + 1 := ⟨k - 1, by omega⟩
  have hl0 := hl.1
  obtain ⟨x, ws, i1, h1, e1, x0, x1, g2, g3, g4, g5⟩ := l3FactT s hs i h hi l (by omega) (by omega) (fun y hy => ⟨by have := (hl.2 y hy).1; omega, (hl.2 y hy).2.1⟩) v hv k (by omega)
  rw [spec_l4Db.l0, if_pos (by omega), e1, Option.bind_some]
  dsimp only
  rw [insS l (by omega) fs (by have := hf.1; omega) (fun y hy => by have := hf.2 y hy; omega) x ws (by omega) k (by omega), Option.bind_some, show wrap64 (((d + 1 : Nat) : Int) - 1) = (d : Int) by rw [w64 (by omega) (by omega)]; omega]
  by_cases c : mayIns l fs x ws = true
  ·rw [if_pos c]
   refine ih _ _ _ g5 (by omega) ⟨?_, fun y hy => ?_⟩ k (by omega)
   ·have := hf.1; rw [insF_len]; omega
   ·rcases (insF_mem fs x ws y).1 hy with h | h
    ·exact hf.2 y h
    ·rw [h]; show ws.length ≤ 5; omega
  ·rw [if_neg c]
   exact ih _ _ _ g5 (by omega) ⟨by have := hf.1; omega, hf.2⟩ k (by omega)
theorem l4DbT (s : List Int) (hs : s.length ≤ 1048576) (i h : Int) (hi : 0 ≤ i) (k : Nat) (hk : 8000200 < k) : ∃ l fs i' h', spec_l4Db.f k s i h = some (l, fs, i', h') ∧ sigs l ∧ (∀ y ∈ l, 1 ≤ y.f1 ∧ y.f1 ≤ 3) ∧ sm fs 40 ∧ 0 ≤ i' := by
 obtain ⟨l, i1, h1, e1, a1, d1⟩ := l2SigsT s hs i h hi
 obtain ⟨v, i2, h2, e2, a2, d2⟩ := l1PickIntT s hs i1 h1 d1 [2, 2, 3, 3] (by simp)
 obtain ⟨n, i3, h3, e3, a3, b3, _, d3⟩ := l1BelowT s hs i2 h2 11 d2
 have hn := b3 (by decide)
 have hv : 0 < v := by
  simp only [List.mem_cons, List.not_mem_nil, or_false] at a2
  rcases a2 with rfl | rfl | rfl | rfl <;> decide
 have hz : ∀ y ∈ l, 1 ≤ y.f1 ∧ y.f1 ≤ 3 := fun y hy => ⟨(a1.2 y hy).1, (a1.2 y hy).2.1⟩
 unfold spec_l4Db.f
 rw [e1, Option.bind_some]
 dsimp only
 rw [e2, Option.bind_some]
 dsimp only
 rw [e3, Option.bind_some]
 dsimp only
 have ew : wrap64 (2 + n) = (((2 + n).toNat : Nat) : Int) := by rw [w64 (by omega) (by omega)]; omega
 rw [ew]
 obtain ⟨gs, i4, h4, e4, a4, d4⟩ := l4DbL s hs l a1 v hv (2 + n).toNat [] i3 h3 d3 (by omega) ⟨Nat.zero_le _, fun y hy => by cases hy⟩ k (by omega)
 exact ⟨l, gs, i4, h4, e4, a1, hz, a4, d4⟩
theorem l2AnyT (s : List Int) (hs : s.length ≤ 1048576) (i h : Int) (hi : 0 ≤ i) : ∃ n a b i' h', spec_l2Any.f s i h = some (n, a, b, i', h') ∧ n.size ≤ 2 ∧ -1 ≤ a ∧ a ≤ 5 ∧ -1 ≤ b ∧ b ≤ 5 ∧ 0 ≤ i' := by
 obtain ⟨x, i1, h1, e1, a1, d1⟩ := l1PickT s hs i h hi [(⟨#[114]⟩ : ByteArray), (⟨#[122]⟩ : ByteArray), (⟨#[97]⟩ : ByteArray), (⟨#[]⟩ : ByteArray), (⟨#[82]⟩ : ByteArray), (⟨#[97, 98]⟩ : ByteArray)] (by simp)
 obtain ⟨y, i2, h2, e2, a2, b2, _, d2⟩ := l1BelowT s hs i1 h1 6 d1
 obtain ⟨z, i3, h3, e3, a3, b3, _, d3⟩ := l1BelowT s hs i2 h2 5 d2
 have := b2 (by decide)
 have := b3 (by decide)
 unfold spec_l2Any.f
 rw [e1, Option.bind_some]
 dsimp only
 rw [e2, Option.bind_some]
 dsimp only
 rw [e3, Option.bind_some]
 refine ⟨_, _, _, _, _, rfl, ?_, ?_, ?_, ?_, ?_, d3⟩
 ·simp only [List.mem_cons, List.not_mem_nil, or_false] at a1
  rcases a1 with rfl | rfl | rfl | rfl | rfl | rfl <;> decide
 all_goals (rw [w64 (by omega) (by omega)]; omega)
theorem l4AnyT (s : List Int) (hs : s.length ≤ 1048576) (i h : Int) (hi : 0 ≤ i) (k : Nat) (hk : 8000200 < k) : ∃ l fs i' h', spec_l4Any.f k s i h = some (l, fs, i', h') ∧ l.length ≤ 4 ∧ (∀ y ∈ l, y.f0.size ≤ 2) ∧ sm fs 41 ∧ 0 ≤ i' := by
 obtain ⟨l, fs, i1, h1, e1, a1, hz, a3, d1⟩ := l4DbT s hs i h hi k hk
 obtain ⟨n, i2, h2, e2, a2, b2, _, d2⟩ := l1BelowT s hs i1 h1 14 d1
 have hl := a1.1
 have hn : ∀ y ∈ l, y.f0.size ≤ 2 := fun y hy => (a1.2 y hy).2.2
 have hf := a3.1
 have a4 : sm fs 41 := ⟨by omega, a3.2⟩
 unfold spec_l4Any.f
 rw [e1, Option.bind_some]
 dsimp only
 rw [e2, Option.bind_some]
 dsimp only
 by_cases c0 : n = 0
 ·obtain ⟨x, ws, i3, h3, e3, w1, _, _, _, d3⟩ := l3AnyT s hs i2 h2 d2 l (by omega) (by omega) hz k (by omega)
  rw [if_pos c0, e3, Option.bind_some, if_pos (by omega)]
  refine ⟨_, _, _, _, rfl, by omega, hn, ⟨by simp; omega, fun y hy => ?_⟩, d3⟩
  rcases List.mem_append.1 hy with hy | hy
  ·exact a3.2 y hy
  ·rw [List.mem_singleton] at hy
   rw [hy]
   exact w1
 rw [if_neg c0]
 by_cases c1 : n = 1
 ·obtain ⟨x, i3, h3, e3, x0, x1, _, d3⟩ := l1BelowT s hs i2 h2 4 d2
  have := x1 (by decide)
  rw [if_pos c1, e3, Option.bind_some, if_pos x0, if_pos (by omega)]
  exact ⟨_, _, _, _, rfl, by rw [List.length_take]; omega, fun y hy => hn y (List.mem_of_mem_take hy), a4, d3⟩
 rw [if_neg c1]
 by_cases c2 : n = 2
 ·obtain ⟨x, i3, h3, e3, x0, x1, _, d3⟩ := l1BelowT s hs i2 h2 4 d2
  obtain ⟨m, p, q, i4, h4, e4, m1, _, _, _, _, d4⟩ := l2AnyT s hs i3 h3 d3
  have := x1 (by decide)
  rw [if_pos c2, e3, Option.bind_some]
  dsimp only
  rw [e4, Option.bind_some, if_pos x0, if_pos (by omega)]
  refine ⟨_, _, _, _, rfl, by rw [List.length_set]; omega, fun y hy => ?_, a4, d4⟩
  rcases List.mem_or_eq_of_mem_set hy with hy | hy
  ·exact hn y hy
  ·rw [hy]
   exact m1
 ·rw [if_neg c2]
  exact ⟨_, _, _, _, rfl, by omega, hn, a4, d2⟩
theorem l1OnceT (s : List Int) (hs : s.length ≤ 1048576) (i h n : Int) (hi : 0 ≤ i) : ∃ b i' h', spec_l1Once.f s i h n = some (b, i', h') ∧ 0 ≤ i' := by
 obtain ⟨x, i1, h1, e1, _, _, _, d1⟩ := l1BelowT s hs i h n hi
 unfold spec_l1Once.f
 rw [e1, Option.bind_some]
 exact ⟨_, _, _, rfl, d1⟩
theorem eqW_refl {α : Type} (p : α → α → Bool) (h : ∀ x, p x x = true) : ∀ xs, eqW p xs xs = true
 | [] => rfl
 | x :: xs => by rw [eqW, h x, eqW_refl p h xs]; rfl
theorem eqOwn (l : List S74) (hl : l.length ≤ 1048576) (fs : List S45) (hf : fs.length ≤ 1048576) (hg : ∀ y ∈ fs, y.f1.length ≤ 1048576) (k : Nat) (hk : 8000000 < k) : spec_EqualDatabases.f k l fs l fs = some true := by
 rw [eqdbS l l fs fs hl hf hg hg k hk, eqW_refl _ (fun x => by simp [relNe]) l, eqW_refl _ (fun x => by unfold factEq; rw [cmpF_self]; rfl) fs]
 rfl
theorem l4FactT (s : List Int) (hs : s.length ≤ 1048576) (i h : Int) (hi : 0 ≤ i) (l : List S74) (fs : List S45) (hf : sm fs 41) (k : Nat) (hk : 8 < k) : ∃ a vs i' h', spec_l4Fact.f k s i h l fs = some (a, vs, i', h') ∧ vs.length ≤ 5 := by
 obtain ⟨k, rfl⟩ : ∃ z, k = z + 1 := ⟨k - 1, by omega⟩
 have hno : ∀ i h, 0 ≤ i → ∃ a vs i' h', spec_l4Fact.j0 (k + 1) false s i h l fs = some (a, vs, i', h') ∧ vs.length ≤ 5 := by
  intro i h hi
  rw [spec_l4Fact.j0, if_neg (by decide)]
  obtain ⟨x, ws, i1, h1, e1, g1, _⟩ := l3AnyT s hs i h hi [(⟨(⟨#[114]⟩ : ByteArray), 2, 0⟩ : S74), (⟨(⟨#[115]⟩ : ByteArray), 2, 0⟩ : S74), (⟨(⟨#[116]⟩ : ByteArray), 2, 0⟩ : S74), (⟨(⟨#[117]⟩ : ByteArray), 3, 0⟩ : S74)] (by simp) (by simp) (by
   intro y hy
   simp only [List.mem_cons, List.not_mem_nil, or_false] at hy
   rcases hy with rfl | rfl | rfl | rfl <;> simp) k (by omega)
  rw [e1, Option.bind_some]
  exact ⟨_, _, _, _, rfl, g1⟩
 unfold spec_l4Fact.f
 by_cases h0 : (fs.length : Int) > 0
 ·rw [if_pos h0]
  obtain ⟨b, i1, h1, e1, d1⟩ := l1OnceT s hs i h 2 hi
  rw [e1, Option.bind_some]
  dsimp only
  cases b with
  | false => exact hno i1 h1 d1
  | true =>
   rw [spec_l4Fact.j0, if_pos rfl]
   obtain ⟨x, i2, h2, e2, x0, x1, _, _⟩ := l1BelowT s hs i1 h1 (fs.length : Int) d1
   have x2 := x1 (by omega)
   rw [e2, Option.bind_some]
   dsimp only
   rw [if_pos x0, if_pos x2]
   refine ⟨_, _, _, _, rfl, ?_⟩
   unfold rd_T45
   exact hf.2 _ (getD_mem fs _ _ (by omega))
 ·rw [if_neg h0]
  exact hno i h hi
theorem drawIF (s : List Int) (hs : s.length ≤ 1048576) (k : Nat) (hk : 9000000 < k) : ∃ l fs a vs, spec_DrawInsertFact.f k s = some (l, fs, a, vs) ∧ l.length ≤ 4 ∧ sm fs 41 ∧ vs.length ≤ 5 := by
 obtain ⟨h, e⟩ := l1NewT s hs k (by omega)
 obtain ⟨l, fs, i1, h1, e1, hl, _, hf, d1⟩ := l4AnyT s hs 0 h (by omega) k (by omega)
 obtain ⟨a, vs, i2, h2, e2, hv⟩ := l4FactT s hs i1 h1 d1 l fs hf k (by omega)
 unfold spec_DrawInsertFact.f spec_DrawContainsFact.f
 rw [e, Option.bind_some]
 dsimp only
 rw [e1, Option.bind_some]
 dsimp only
 rw [e2, Option.bind_some]
 exact ⟨l, fs, a, vs, rfl, hl, hf, hv⟩
theorem FnInsertDelete : laws_FnInsertDelete.Pure := by
 intro s _ _ _
 by_cases hn : (s.length : Int) > 1048576
 ·refine ⟨0, ?_⟩
  unfold laws_FnInsertDelete.f laws_big.f
  rw [decide_eq_true hn, Option.bind_some, if_pos rfl]
 have hsl : s.length ≤ 1048576 := by omega
 refine ⟨9500001, ?_⟩
 generalize hk : (9500001 : Nat) = k
 obtain ⟨l, fs, a, vs, e1, hl, hsm, hx⟩ := drawIF s hsl k (by omega)
 have hf := hsm.1
 have hg : ∀ y ∈ fs, y.f1.length ≤ 1048576 := fun y hy => by have := hsm.2 y hy; omega
 obtain ⟨i1, i2⟩ := insB l (by omega) fs (by omega) hg a vs (by omega) k (by omega)
 unfold laws_FnInsertDelete.f
 rw [show laws_big.f s = some false by unfold laws_big.f; rw [decide_eq_false hn], Option.bind_some, if_neg (by decide), e1, Option.bind_some]
 dsimp only
 rw [i1, i2, Option.bind_some, Option.bind_some, if_neg (by simp), show impl_IsValidDatabase.f l fs = some (vDb l fs) from rfl, Option.bind_some, vDS l (by omega) fs (by omega) hg k (by omega), Option.bind_some, if_neg (by simp)]
 obtain ⟨q, hq⟩ : ∃ q, k = q + 1 := ⟨k - 1, by omega⟩
 unfold insR
 by_cases hm : mayIns l fs a vs = true
 ·obtain ⟨m1, m2, m3, m4, m5, m6⟩ := ins_law l fs a vs hm
  rw [if_pos hm]
  dsimp only
  rw [if_pos rfl, hq, laws_FnInsertDelete.j0, if_neg (by decide), if_pos rfl]
  have hF : (insF fs a vs).length ≤ 1048576 := by rw [insF_len]; omega
  have hG : ∀ y ∈ insF fs a vs, y.f1.length ≤ 1048576 := fun y hy => by
   rcases (insF_mem fs a vs y).1 hy with h | h
   ·exact hg y h
   ·rw [h]; show vs.length ≤ _; omega
  have hR : delR l (insF fs a vs) a vs = (l, fs, true) := by
   unfold delR
   rw [m4, decide_eq_true m5, if_pos (by rfl), m6]
  rw [(delB l (by omega) (insF fs a vs) hF hG a vs (by omega) q (by omega)).2, hR, Option.bind_some, hasI2, Option.bind_some, m4, decide_eq_true m5]
  rw [if_pos (by rfl), hasI2, Option.bind_some, decide_eq_false (show ¬ idxW (factIs a vs) fs 0 ≥ 0 by omega), Bool.and_false, if_neg (by decide), show impl_IsValidDatabase.f l (insF fs a vs) = some true by unfold impl_IsValidDatabase.f; rw [m4], Option.bind_some, if_pos rfl]
  try dsimp only
  rw [if_pos rfl, eqOwn l (by omega) fs (by omega) hg q (by omega), Option.bind_some, if_pos rfl, impl_FactIndex.f, Option.bind_some, decide_eq_true m5]
 ·rw [if_neg hm]
  dsimp only
  rw [if_neg (by decide), eqOwn l (by omega) fs (by omega) hg k (by omega), Option.bind_some, hq, laws_FnInsertDelete.j0, if_neg (by decide), if_neg (by decide)]
  obtain ⟨d1, d2⟩ := delB l (by omega) fs (by omega) hg a vs (by omega) q (by omega)
  rw [d1, d2, Option.bind_some, Option.bind_some]
  unfold delR
  by_cases hd : (vDb l fs && decide (idxW (factIs a vs) fs 0 ≥ 0)) = true
  ·have hd' := hd
   rw [Bool.and_eq_true, decide_eq_true_iff] at hd'
   obtain ⟨n1, n2⟩ := del_law l fs a vs hd'.1 hd'.2
   rw [if_pos hd]
   dsimp only
   have hE : (fs.eraseIdx (idxW (factIs a vs) fs 0).toNat).length ≤ 1048576 := by
    have := List.length_eraseIdx_le fs (idxW (factIs a vs) fs 0).toNat
    omega
   rw [insI l (by omega) _ hE (fun y hy => hg y (List.mem_of_mem_eraseIdx hy)) a vs (by omega) q (by omega), Option.bind_some, if_pos (by rfl), if_pos rfl]
   unfold insR
   rw [if_pos n1]
   dsimp only
   rw [if_pos rfl, n2, eqOwn l (by omega) fs (by omega) hg q (by omega), Option.bind_some]
  ·rw [if_neg hd]
   dsimp only
   rw [insI l (by omega) fs (by omega) hg a vs (by omega) q (by omega), Option.bind_some, if_pos (by rfl), if_neg (by decide)]
end Go.Proofs.Yteddnlklfjpgoaa.Pure
