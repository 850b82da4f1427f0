/- The law FnRelationFormat answers true for every code: a drawn relation's text is read back, a text that is read is the text of what was read, both texts of the program agree, and a name is found at its own place. -/
import Derived.Test.YtdpaopfghggiaaaDoorGFnRelationFormat
import Derived.Test.YtdpaopfghggiaaaDoorBase
import Derived.Lib.ItoaLen
namespace Go.Proofs.YtdpaopfghggiaaaDoor.Pure
open Go.RowKit Go.Proofs.YtdpaopfghggiaaaDoor.PFnRelationFormat Go.Proofs.YtdpaopfghggiaaaDoorW.PrintWords Go.Proofs.YtdpaopfghggiaaaDoorW.PrintLast Go.Proofs.YtdpaopfghggiaaaDoorW.PrintMore Go.Proofs.YtdpaopfghggiaaaDoor.Base
set_option linter.unusedVariables false
set_option linter.unusedSimpArgs false

/-- What FormatInt lays for a number's magnitude: nothing for 0, else its digits. -/
def dig (u : Nat) : List UInt8 := if u = 0 then [] else Lib.decDigits u
theorem dig_step (u : Nat) (h : 0 < u) : dig u = dig (u / 10) ++ [UInt8.ofNat (48 + u % 10)] := by
  unfold dig
  rw [if_neg (by omega), Lib.decDigits]
  by_cases c : u < 10
  · rw [dif_pos c, if_pos (by omega), List.nil_append, Nat.mod_eq_of_lt c]
  · rw [dif_neg c, if_neg (by omega)]
theorem sn_cons (z : Int) (l : List UInt8) : strOfNums [z] ++ (⟨l.toArray⟩ : ByteArray) = ⟨(UInt8.ofNat z.toNat :: l).toArray⟩ := by
  apply ByteArray.ext
  apply Array.ext'
  rw [ByteArray.data_append, Array.toList_append, sn_toList]
  simp
theorem sz_mk (l : List UInt8) : (⟨l.toArray⟩ : ByteArray).size = l.length := by
  rw [show (⟨l.toArray⟩ : ByteArray).size = (⟨l.toArray⟩ : ByteArray).data.size from rfl]; simp
def fin (neg : Bool) (l : List UInt8) : ByteArray := if neg = true then ⟨(45 :: l).toArray⟩ else ⟨l.toArray⟩
theorem fil (d : Nat) : ∀ (u : Nat) (x : Int) (neg : Bool) (l : List UInt8), (x = u ∨ x = -(u : Int)) → u < 10 ^ d → u ≤ 9223372036854775808 → l.length + d ≤ 1000 → ∀ k, d < k → spec_FormatInt.l0 k x ⟨l.toArray⟩ neg = some (fin neg (dig u ++ l)) := by
  induction d with
  | zero =>
    intro u x neg l hx hu _ hl k hk
    obtain ⟨k, rfl, hk⟩ := fuel hk
    rw [Nat.pow_zero] at hu
    rw [spec_FormatInt.l0, if_pos (by omega), show u = 0 by omega]
    unfold fin dig
    rw [if_pos rfl, List.nil_append]
    by_cases h : neg = true
    · rw [if_pos h, if_pos h, if_pos (by rw [sz_mk]; omega)]
      congr 1
    · rw [if_neg h, if_neg h]
  | succ d ih =>
    intro u x neg l hx hu hb hl k hk
    obtain ⟨k, rfl, hk⟩ := fuel hk
    by_cases h0 : u = 0
    · rw [spec_FormatInt.l0, if_pos (by omega), h0]
      unfold fin dig
      rw [if_pos rfl, List.nil_append]
      by_cases h : neg = true
      · rw [if_pos h, if_pos h, if_pos (by rw [sz_mk]; omega)]
        congr 1
      · rw [if_neg h, if_neg h]
    · have hm : Int.tmod x 10 = (u % 10 : Nat) ∨ Int.tmod x 10 = -((u % 10 : Nat) : Int) := by
        rcases hx with rfl | rfl
        · left; rw [Int.tmod_eq_emod_of_nonneg (by omega)]; omega
        · right; rw [Int.neg_tmod, Int.tmod_eq_emod_of_nonneg (by omega)]; omega
      have hd : Int.tdiv x 10 = (u / 10 : Nat) ∨ Int.tdiv x 10 = -((u / 10 : Nat) : Int) := by
        rcases hx with rfl | rfl
        · left; rw [Int.tdiv_eq_ediv_of_nonneg (by omega)]; omega
        · right; rw [Int.neg_tdiv, Int.tdiv_eq_ediv_of_nonneg (by omega)]; omega
      have h1 : (strOfNums [((48 + u % 10 : Nat) : Int)]).size = 1 := by rw [sn_size]; rfl
      have hs := ih (u / 10) (Int.tdiv x 10) neg (UInt8.ofNat (48 + u % 10) :: l) hd (by rw [Nat.pow_succ] at hu; omega) (by omega) (by simp only [List.length_cons]; omega) k (by omega)
      have hz : wrap64 (Int.tdiv x 10) = Int.tdiv x 10 := w64 (by omega) (by omega)
      have hn : ∀ z : Int, z = ((u % 10 : Nat) : Int) → wrap64 (48 + z) % 256 = ((48 + u % 10 : Nat) : Int) := by
        intro z e
        rw [w64 (by omega) (by omega)]
        omega
      have hfin : spec_FormatInt.l0 k (wrap64 (Int.tdiv x 10)) (strOfNums [((48 + u % 10 : Nat) : Int)] ++ ⟨l.toArray⟩) neg = some (fin neg (dig u ++ l)) := by
        rw [hz, sn_cons, Int.toNat_natCast, hs, dig_step u (by omega), List.append_assoc]
        rfl
      rw [spec_FormatInt.l0, if_neg (by omega)]
      by_cases hc : Int.tmod x 10 < 0
      · rw [if_pos hc, Option.bind_some, hn _ (by rw [w64 (by omega) (by omega)]; omega), if_pos (by rw [h1, sz_mk]; omega)]
        exact hfin
      · rw [if_neg hc, Option.bind_some, hn _ (by omega), if_pos (by rw [h1, sz_mk]; omega)]
        exact hfin
theorem fiS (n : Int) (h0 : -9223372036854775808 ≤ n) (h1 : n ≤ 9223372036854775807) (k : Nat) (hk : 30 < k) : spec_FormatInt.f k n = some ⟨(Lib.itoa n).toArray⟩ := by
  unfold spec_FormatInt.f
  by_cases h : n = 0
  · rw [if_pos h, h]
    unfold Lib.itoa
    rw [if_neg (by omega), show (0 : Int).toNat = 0 from rfl, Lib.decDigits, dif_pos (by omega)]
    rfl
  · rw [if_neg h]
    have hp : (10 : Nat) ^ 20 = 100000000000000000000 := by decide
    have := fil 20 n.natAbs n (decide (n < 0)) [] (by omega) (by omega) (by omega) (by simp) k (by omega)
    rw [show (⟨#[]⟩ : ByteArray) = ⟨([] : List UInt8).toArray⟩ from rfl, this, List.append_nil]
    unfold fin dig Lib.itoa
    rw [if_neg (show ¬ n.natAbs = 0 by omega)]
    by_cases hn : n < 0
    · rw [if_pos (decide_eq_true hn), if_pos hn]
    · rw [if_neg (by simpa using hn), if_neg hn, show n.natAbs = n.toNat by omega]

theorem fiI (n : Int) (h0 : -9223372036854775808 ≤ n) (h1 : n ≤ 9223372036854775807) : impl_FormatInt.f n = some ⟨(Lib.itoa n).toArray⟩ := by
  unfold impl_FormatInt.f strconv_Itoa_52.f
  rw [if_pos h0, if_pos h1, Option.bind_some]
def numB (v : Int) : ByteArray := ⟨(Lib.itoa v).toArray⟩
theorem numB_sz (v : Int) (h0 : -9223372036854775808 ≤ v) (h1 : v ≤ 9223372036854775807) : (numB v).size ≤ 21 := by
  unfold numB; rw [sz_mk]; exact Lib.itoa_length_le v h0 h1

/-- The text of a relation; the empty text where the relation is not valid. -/
def rTx (r : S28) : ByteArray := if vRel r = true then ((r.f0 ++ numB r.f2) ++ (⟨#[47]⟩ : ByteArray)) ++ numB r.f1 else (⟨#[]⟩ : ByteArray)
def okN (v : Int) : Prop := -9223372036854775808 ≤ v ∧ v ≤ 9223372036854775807
theorem rTx_sz (r : S28) (h1 : okN r.f1) (h2 : okN r.f2) : (rTx r).size ≤ 50 := by
  unfold rTx
  by_cases h : vRel r = true
  · have hs := h
    unfold vRel at hs
    rw [Bool.and_eq_true, Bool.and_eq_true, decide_eq_true_iff] at hs
    have := hs.1.1.1
    have l1 : (⟨#[47]⟩ : ByteArray).size = 1 := rfl
    have a := numB_sz r.f1 h1.1 h1.2
    have b := numB_sz r.f2 h2.1 h2.2
    rw [if_pos h, ByteArray.size_append, ByteArray.size_append, ByteArray.size_append]
    omega
  · rw [if_neg h]
    exact Nat.zero_le _
theorem frB2 (r : S28) (h1 : okN r.f1) (h2 : okN r.f2) (k : Nat) (hk : 30 < k) : spec_FormatRelation.f k r.f0 r.f1 r.f2 = some (rTx r) ∧ impl_FormatRelation.f r.f0 r.f1 r.f2 = some (rTx r) := by
  unfold spec_FormatRelation.f impl_FormatRelation.f rTx
  rw [vRelS, vRelI, Option.bind_some, Option.bind_some]
  by_cases h : vRel r = true
  · have hs := h
    unfold vRel at hs
    rw [Bool.and_eq_true, Bool.and_eq_true, decide_eq_true_iff] at hs
    have := hs.1.1.1
    have l1 : (⟨#[47]⟩ : ByteArray).size = 1 := rfl
    have a := numB_sz r.f1 h1.1 h1.2
    have b := numB_sz r.f2 h2.1 h2.2
    have e1 : spec_FormatInt.f k r.f2 = some (numB r.f2) := fiS _ h2.1 h2.2 k (by omega)
    have e2 : spec_FormatInt.f k r.f1 = some (numB r.f1) := fiS _ h1.1 h1.2 k (by omega)
    have e3 : impl_FormatInt.f r.f2 = some (numB r.f2) := fiI _ h2.1 h2.2
    have e4 : impl_FormatInt.f r.f1 = some (numB r.f1) := fiI _ h1.1 h1.2
    rw [if_pos h, if_pos h, if_pos h, e1, e2, e3, e4]
    simp only [Option.bind_some]
    rw [if_pos (by omega), if_pos (by rw [ByteArray.size_append]; omega), if_pos (by rw [ByteArray.size_append, ByteArray.size_append]; omega)]
    exact ⟨rfl, rfl⟩
  · rw [if_neg h, if_neg h, if_neg h]
    exact ⟨rfl, rfl⟩

/-! ### draws: each comes to something, and how large it is -/
theorem and255 (x : Int) : 0 ≤ Go.bits .and .i64 x 255 ∧ Go.bits .and .i64 x 255 ≤ 255 := by
  unfold Go.bits
  have h : (BitVec.ofInt IntKind.i64.bits x &&& BitVec.ofInt IntKind.i64.bits 255).toNat ≤ 255 := by
    rw [BitVec.toNat_and]
    exact Nat.le_trans Nat.and_le_right (by decide)
  simp only [IntKind.wrap_i64]
  omega
theorem l1ByteT (s : List Int) (hs : s.length ≤ 1048576) (i h : Int) (hi : 0 ≤ i) : ∃ x i' h', spec_l1Byte.f s i h = some (x, i', h') ∧ 0 ≤ x ∧ x ≤ 255 ∧ 0 ≤ i' := by
  unfold spec_l1Byte.f
  by_cases c : i < (s.length : Int)
  · rw [if_pos c, if_pos hi]
    refine ⟨_, _, _, rfl, (and255 _).1, (and255 _).2, ?_⟩
    rw [w64 (by omega) (by omega)]
    omega
  · rw [if_neg c]
    exact ⟨_, _, _, rfl, (and255 _).1, (and255 _).2, hi⟩
theorem l1BelowT (s : List Int) (hs : s.length ≤ 1048576) (i h n : Int) (hi : 0 ≤ i) : ∃ x i' h', spec_l1Below.f s i h n = some (x, i', h') ∧ 0 ≤ x ∧ (0 < n → x < n) ∧ (n ≤ 0 → x = 0) ∧ 0 ≤ i' := by
  unfold spec_l1Below.f
  by_cases c : n ≤ 0
  · rw [if_pos c]
    exact ⟨_, _, _, rfl, by omega, by omega, fun _ => rfl, hi⟩
  · rw [if_neg c]
    by_cases c2 : n ≤ 256
    · obtain ⟨x, i1, h1, e1, a1, b1, d1⟩ := l1ByteT s hs i h hi
      rw [if_pos c2, e1, Option.bind_some, if_neg (by omega)]
      refine ⟨_, _, _, rfl, ?_, ?_, by omega, d1⟩
      · rw [tm a1]; exact Int.emod_nonneg _ (by omega)
      · intro _; rw [tm a1]; exact Int.emod_lt_of_pos _ (by omega)
    · obtain ⟨x1, i1, h1, e1, a1, b1, d1⟩ := l1ByteT s hs i h hi
      obtain ⟨x2, i2, h2, e2, a2, b2, d2⟩ := l1ByteT s hs i1 h1 d1
      obtain ⟨x3, i3, h3, e3, a3, b3, d3⟩ := l1ByteT s hs i2 h2 d2
      obtain ⟨x4, i4, h4, e4, a4, b4, d4⟩ := l1ByteT s hs i3 h3 d3
      rw [if_neg c2, e1, Option.bind_some, e2, Option.bind_some, e3, Option.bind_some, e4, Option.bind_some, if_neg (by omega)]
      rw [w64 (n := x1 * 16777216) (by omega) (by omega), w64 (n := x2 * 65536) (by omega) (by omega), w64 (n := x3 * 256) (by omega) (by omega), w64 (n := x1 * 16777216 + x2 * 65536) (by omega) (by omega), w64 (n := x1 * 16777216 + x2 * 65536 + x3 * 256) (by omega) (by omega), w64 (n := x1 * 16777216 + x2 * 65536 + x3 * 256 + x4) (by omega) (by omega)]
      refine ⟨_, _, _, rfl, ?_, ?_, by omega, d4⟩
      · rw [tm (by omega)]; exact Int.emod_nonneg _ (by omega)
      · intro _; rw [tm (by omega)]; exact Int.emod_lt_of_pos _ (by omega)

theorem l1PickT (s : List Int) (hs : s.length ≤ 1048576) (i h : Int) (hi : 0 ≤ i) (l : List ByteArray) (hl : 0 < l.length) : ∃ x i' h', spec_l1Pick.f s i h l = some (x, i', h') ∧ x ∈ l ∧ 0 ≤ i' := by
  obtain ⟨x, i1, h1, e1, a1, b1, _, d1⟩ := l1BelowT s hs i h (l.length : Int) hi
  have := b1 (by omega)
  unfold spec_l1Pick.f
  rw [e1, Option.bind_some, if_pos a1, if_pos this]
  refine ⟨_, _, _, rfl, ?_, d1⟩
  unfold rdOf
  exact getD_mem l _ _ (by omega)

theorem l1PickIntT (s : List Int) (hs : s.length ≤ 1048576) (i h : Int) (hi : 0 ≤ i) (l : List Int) (hl : 0 < l.length) : ∃ x i' h', spec_l1PickInt.f s i h l = some (x, i', h') ∧ x ∈ l ∧ 0 ≤ i' := by
  obtain ⟨x, i1, h1, e1, a1, b1, _, d1⟩ := l1BelowT s hs i h (l.length : Int) hi
  have := b1 (by omega)
  unfold spec_l1PickInt.f
  rw [e1, Option.bind_some, if_pos a1, if_pos this]
  refine ⟨_, _, _, rfl, ?_, d1⟩
  unfold rd
  exact getD_mem l _ _ (by omega)

theorem l1NewL (s : List Int) (hs : s.length ≤ 1048576) (d : Nat) : ∀ (i : Nat) (h : Int), i + d = s.length → ∀ k, d < k → ∃ h', spec_l1New.l0 k s h i = some (s, 0, h') := by
  induction d with
  | zero =>
    intro i h hd k hk
    obtain ⟨k, rfl, hk⟩ := fuel hk
    rw [spec_l1New.l0, if_neg (by omega)]
    exact ⟨_, rfl⟩
  | succ d ih =>
    intro i h hd k hk
    obtain ⟨k, rfl, hk⟩ := fuel hk
    rw [spec_l1New.l0, if_pos (by omega)]
    by_cases c : (i : Int) < 4000
    · rw [if_pos c, if_pos (by omega), show wrap64 ((i : Int) + 1) = ((i + 1 : Nat) : Int) by rw [w64 (by omega) (by omega)]; omega]
      exact ih (i + 1) _ (by omega) k (by omega)
    · rw [if_neg c]
      exact ⟨_, rfl⟩
theorem l1NewT (s : List Int) (hs : s.length ≤ 1048576) (k : Nat) (hk : s.length < k) : ∃ h', spec_l1New.f k s = some (s, 0, h') := by
  unfold spec_l1New.f
  exact l1NewL s hs s.length 0 _ (by omega) k hk

theorem l1TextL (s : List Int) (hs : s.length ≤ 1048576) (m : Int) (d : Nat) : ∀ (n : Int) (xs : List Int) (i h : Int), 0 ≤ i → n ≤ d → d ≤ 100000 → xs.length + d ≤ 1000000 → ∀ k, d < k → ∃ t i' h', spec_l1Text.l0 k xs m n s i h = some (t, i', h') ∧ t.size ≤ xs.length + d ∧ 0 ≤ i' := by
  induction d with
  | zero =>
    intro n xs i h hi hn _ _ k hk
    obtain ⟨k, rfl, hk⟩ := fuel hk
    rw [spec_l1Text.l0, if_neg (by omega)]
    exact ⟨_, _, _, rfl, by rw [sn_size]; omega, hi⟩
  | succ d ih =>
    intro n xs i h hi hn hd hx k hk
    obtain ⟨k, rfl, hk⟩ := fuel hk
    rw [spec_l1Text.l0]
    by_cases c : n > 0
    · obtain ⟨x, i1, h1, e1, a1, b1, d1⟩ := l1ByteT s hs i h hi
      have hw : wrap64 (n - 1) = n - 1 := w64 (by omega) (by omega)
      have st := fun z => ih (n - 1) (xs ++ [z]) i1 h1 d1 (by omega) (by omega) (by simp only [List.length_append, List.length_singleton]; omega) k (by omega)
      rw [if_pos c, e1, Option.bind_some, hw]
      by_cases c1 : m = 1
      · rw [if_pos c1, if_neg (by omega), if_pos (by omega)]
        obtain ⟨t, i', h', e, f, g⟩ := st (Int.tmod x 2 % 256)
        exact ⟨t, i', h', e, by simp only [List.length_append, List.length_singleton] at f; omega, g⟩
      · rw [if_neg c1]
        by_cases c2 : m = 2
        · rw [if_pos c2, if_pos (by omega)]
          obtain ⟨t, i', h', e, f, g⟩ := st (wrap64 (97 + Int.tmod x 4) % 256)
          exact ⟨t, i', h', e, by simp only [List.length_append, List.length_singleton] at f; omega, g⟩
        · rw [if_neg c2, if_pos (by omega)]
          obtain ⟨t, i', h', e, f, g⟩ := st (x % 256)
          exact ⟨t, i', h', e, by simp only [List.length_append, List.length_singleton] at f; omega, g⟩
    · rw [if_neg c]
      exact ⟨_, _, _, rfl, by rw [sn_size]; omega, hi⟩
theorem l1TextT (s : List Int) (hs : s.length ≤ 1048576) (i h : Int) (hi : 0 ≤ i) (n : Int) (hn0 : 0 ≤ n) (hn : n ≤ 90000) (k : Nat) (hk : 100000 < k) : ∃ t i' h', spec_l1Text.f k s i h n = some (t, i', h') ∧ (t.size : Int) ≤ n ∧ 0 ≤ i' := by
  obtain ⟨x, i1, h1, e1, a1, b1, _, d1⟩ := l1BelowT s hs i h 4 hi
  obtain ⟨y, i2, h2, e2, a2, b2, _, d2⟩ := l1BelowT s hs i1 h1 (n + 1) d1
  have := b2 (by omega)
  unfold spec_l1Text.f
  rw [e1, Option.bind_some, w64 (by omega) (by omega), e2, Option.bind_some]
  obtain ⟨t, i3, h3, e3, f3, d3⟩ := l1TextL s hs x n.toNat y [] i2 h2 d2 (by omega) (by omega) (by simp only [List.length_nil]; omega) k (by omega)
  exact ⟨t, i3, h3, e3, by simp only [List.length_nil] at f3; omega, d3⟩
theorem ex_le (a : ByteArray) (i j : Nat) : (a.extract i j).size ≤ a.size := by rw [ByteArray.size_extract]; omega
theorem sn1 (z : Int) : (strOfNums [z]).size = 1 := by rw [sn_size]; rfl
/-- A spoilt text: a byte out, a byte in, cut, or a byte changed. -/
theorem l1SpoilT (s : List Int) (hs : s.length ≤ 1048576) (i h : Int) (hi : 0 ≤ i) (a : ByteArray) (ha : a.size ≤ 1000000000) (k : Nat) (hk : 100000 < k) : ∃ t i' h', spec_l1Spoil.f k s i h a = some (t, i', h') ∧ t.size ≤ a.size + 3 ∧ 0 ≤ i' := by
  unfold spec_l1Spoil.f
  by_cases c : (a.size : Int) = 0
  · obtain ⟨t, i1, h1, e1, f1, d1⟩ := l1TextT s hs i h hi 3 (by omega) (by omega) k hk
    rw [if_pos c, e1, Option.bind_some]
    exact ⟨t, i1, h1, rfl, by omega, d1⟩
  · obtain ⟨x, i1, h1, e1, a1, b1, _, d1⟩ := l1BelowT s hs i h (a.size : Int) hi
    have hx := b1 (by omega)
    obtain ⟨y, i2, h2, e2, a2, b2, _, d2⟩ := l1BelowT s hs i1 h1 4 d1
    have w1 : wrap64 (x + 1) = x + 1 := w64 (by omega) (by omega)
    have s1 := ex_le a 0 x.toNat
    have s2 := ex_le a (x + 1).toNat a.size
    have s3 := ex_le a x.toNat a.size
    have z1 : (a.extract 0 x.toNat).size = x.toNat := by rw [ByteArray.size_extract]; omega
    have z2 : (a.extract (x + 1).toNat a.size).size = a.size - (x + 1).toNat := by rw [ByteArray.size_extract]; omega
    have z3 : (a.extract x.toNat a.size).size = a.size - x.toNat := by rw [ByteArray.size_extract]; omega
    rw [if_neg c, e1, Option.bind_some, e2, Option.bind_some]
    dsimp only
    rw [w1]
    by_cases c0 : y = 0
    · rw [if_pos c0, if_pos a1, if_pos (by omega), if_pos (by omega), if_pos (by omega), if_pos (by omega)]
      exact ⟨_, _, _, rfl, by rw [ByteArray.size_append]; omega, d2⟩
    · rw [if_neg c0]
      by_cases c1 : y = 1
      · obtain ⟨u, i3, h3, e3, a3, b3, d3⟩ := l1ByteT s hs i2 h2 d2
        rw [if_pos c1, if_pos a1, if_pos (by omega), e3, Option.bind_some, Option.bind_some]
        dsimp only
        rw [if_pos (by rw [sn1]; omega), if_pos (by rw [ByteArray.size_append, sn1]; omega)]
        exact ⟨_, _, _, rfl, by rw [ByteArray.size_append, ByteArray.size_append, sn1]; omega, d3⟩
      · rw [if_neg c1]
        by_cases c2 : y = 2
        · rw [if_pos c2, if_pos a1, if_pos (by omega)]
          exact ⟨_, _, _, rfl, by omega, d2⟩
        · obtain ⟨u, i3, h3, e3, a3, b3, _, d3⟩ := l1BelowT s hs i2 h2 255 d2
          rw [if_neg c2, if_pos a1, if_pos (by omega), if_pos (by omega), e3, Option.bind_some, Option.bind_some]
          dsimp only
          rw [if_pos (by rw [sn1]; omega), if_pos (by omega), if_pos (by omega), if_pos (by rw [ByteArray.size_append, sn1]; omega)]
          exact ⟨_, _, _, rfl, by rw [ByteArray.size_append, ByteArray.size_append, sn1]; omega, d3⟩

theorem okN_of {v : Int} (h0 : -1000 ≤ v) (h1 : v ≤ 1000) : okN v := ⟨by omega, by omega⟩
theorem l2AnyT (s : List Int) (hs : s.length ≤ 1048576) (i h : Int) (hi : 0 ≤ i) : ∃ n a b i' h', spec_l2Any.f s i h = some (n, a, b, i', h') ∧ okN a ∧ okN b ∧ 0 ≤ i' := by
  unfold spec_l2Any.f
  obtain ⟨x, i1, h1, e1, a1, d1⟩ := l1PickT s hs i h hi _ (show 0 < ([(⟨#[114]⟩ : ByteArray), (⟨#[122]⟩ : ByteArray), (⟨#[97]⟩ : ByteArray), (⟨#[]⟩ : ByteArray), (⟨#[82]⟩ : ByteArray), (⟨#[97, 98]⟩ : ByteArray)] : List ByteArray).length by simp)
  obtain ⟨y, i2, h2, e2, a2, b2, _, d2⟩ := l1BelowT s hs i1 h1 6 d1
  obtain ⟨z, i3, h3, e3, a3, b3, _, d3⟩ := l1BelowT s hs i2 h2 5 d2
  have := b2 (by omega)
  have := b3 (by omega)
  rw [e1, Option.bind_some, e2, Option.bind_some, e3, Option.bind_some, w64 (by omega) (by omega), w64 (by omega) (by omega)]
  exact ⟨_, _, _, _, _, rfl, okN_of (by omega) (by omega), okN_of (by omega) (by omega), d3⟩
theorem l2SigsN (s : List Int) (hs : s.length ≤ 1048576) (i h : Int) (hi : 0 ≤ i) : ∃ l i' h', spec_l2Sigs.f s i h = some (l, i', h') ∧ l.length = 4 ∧ (∀ y ∈ l, okN y.f1 ∧ okN y.f2) ∧ 0 ≤ i' := by
  obtain ⟨x, i1, h1, e1, a1, d1⟩ := l1PickIntT s hs i h hi [1, 1, 2, 0] (by simp)
  obtain ⟨y, i2, h2, e2, a2, b2, _, d2⟩ := l1BelowT s hs i1 h1 2 d1
  have := b2 (by omega)
  have hx : 0 ≤ x ∧ x ≤ 2 := by
    simp only [List.mem_cons, List.not_mem_nil, or_false] at a1
    omega
  unfold spec_l2Sigs.f
  rw [e1, Option.bind_some, e2, Option.bind_some, w64 (by omega) (by omega)]
  refine ⟨_, _, _, rfl, rfl, ?_, d2⟩
  intro z hz
  simp only [List.mem_cons, List.not_mem_nil, or_false] at hz
  rcases hz with rfl | rfl | rfl | rfl
  · exact ⟨okN_of (by decide) (by decide), okN_of (by decide) (by decide)⟩
  · exact ⟨okN_of (by decide) (by decide), okN_of (by decide) (by decide)⟩
  · exact ⟨okN_of (show (-1000 : Int) ≤ 2 by omega) (show (2 : Int) ≤ 1000 by omega), okN_of (show -1000 ≤ x by omega) (show x ≤ 1000 by omega)⟩
  · exact ⟨okN_of (show (-1000 : Int) ≤ 3 by omega) (show (3 : Int) ≤ 1000 by omega), okN_of (show -1000 ≤ 1 + y by omega) (show 1 + y ≤ 1000 by omega)⟩
theorem drawFR (s : List Int) (hs : s.length ≤ 1048576) (k : Nat) (hk : s.length < k) : ∃ n a b, spec_DrawFormatRelation.f k s = some (n, a, b) ∧ okN a ∧ okN b := by
  obtain ⟨h, e⟩ := l1NewT s hs k hk
  obtain ⟨n, a, b, i1, h1, e1, o1, o2, d1⟩ := l2AnyT s hs 0 h (by omega)
  unfold spec_DrawFormatRelation.f
  rw [e, Option.bind_some, e1, Option.bind_some]
  exact ⟨_, _, _, rfl, o1, o2⟩
theorem drawPR (s : List Int) (hs : s.length ≤ 1048576) (k : Nat) (hk : 2000000 < k) : ∃ t, spec_DrawParseRelation.f k s = some t := by
  obtain ⟨h, e⟩ := l1NewT s hs k (by omega)
  obtain ⟨l, i1, h1, e1, g1, o1, d1⟩ := l2SigsN s hs 0 h (by omega)
  obtain ⟨x, i2, h2, e2, a2, b2, _, d2⟩ := l1BelowT s hs i1 h1 4 d1
  have := b2 (by omega)
  have ho := o1 _ (getD_mem l z28 x.toNat (by omega))
  have hz := rTx_sz _ ho.1 ho.2
  obtain ⟨y, i3, h3, e3, _, _, _, d3⟩ := l1BelowT s hs i2 h2 2 d2
  unfold spec_DrawParseRelation.f
  rw [e, Option.bind_some, e1, Option.bind_some, e2, Option.bind_some]
  dsimp only
  rw [if_pos a2, if_pos (by omega)]
  unfold rd_T28
  rw [(frB2 _ ho.1 ho.2 k (by omega)).1, Option.bind_some]
  unfold spec_l1Once.f
  rw [e3, Option.bind_some, Option.bind_some]
  dsimp only
  by_cases c : (y == 0) = true
  · obtain ⟨t, i4, h4, e4, f4, d4⟩ := l1SpoilT s hs i3 h3 d3 (rTx (l.getD x.toNat z28)) (by omega) k (by omega)
    obtain ⟨u, i5, h5, e5, _, d5⟩ := l1PickT s hs i4 h4 d4 (([(⟨#[]⟩ : ByteArray), (⟨#[114, 49, 47, 50]⟩ : ByteArray), (⟨#[114, 51, 47, 50]⟩ : ByteArray), (⟨#[114, 48, 47, 48]⟩ : ByteArray), (⟨#[82, 49, 47, 50]⟩ : ByteArray), (⟨#[114, 49, 47, 52]⟩ : ByteArray), (⟨#[114, 49, 50]⟩ : ByteArray), (⟨#[114, 49, 47, 50, 32]⟩ : ByteArray), t] : List ByteArray)) (by simp)
    rw [if_pos c, e4, Option.bind_some]
    dsimp only
    rw [e5, Option.bind_some]
    exact ⟨_, rfl⟩
  · rw [if_neg c]
    exact ⟨_, rfl⟩
theorem drawVR (s : List Int) (hs : s.length ≤ 1048576) (k : Nat) (hk : 2000000 < k) : ∃ l, spec_DrawAreValidRelations.f k s = some l := by
  obtain ⟨h, e⟩ := l1NewT s hs k (by omega)
  obtain ⟨l, i1, h1, e1, g1, o1, d1⟩ := l2SigsN s hs 0 h (by omega)
  obtain ⟨x, i2, h2, e2, a2, b2, _, d2⟩ := l1BelowT s hs i1 h1 6 d1
  obtain ⟨y, i3, h3, e3, a3, b3, _, d3⟩ := l1BelowT s hs i2 h2 4 d2
  have := b3 (by omega)
  obtain ⟨n, a, b, i4, h4, e4, _, _, d4⟩ := l2AnyT s hs i3 h3 d3
  unfold spec_DrawAreValidRelations.f
  rw [e, Option.bind_some, e1, Option.bind_some, e2, Option.bind_some]
  dsimp only
  by_cases c0 : x = 0
  · rw [if_pos c0, e3, Option.bind_some, e4, Option.bind_some]
    dsimp only
    rw [if_pos a3, if_pos (by omega)]
    exact ⟨_, rfl⟩
  · rw [if_neg c0]
    by_cases c1 : x = 1
    · rw [if_pos c1, if_pos (by omega)]
      exact ⟨_, rfl⟩
    · rw [if_neg c1]
      by_cases c2 : x = 2
      · rw [if_pos c2, e3, Option.bind_some]
        dsimp only
        rw [if_pos a3, if_pos (by omega)]
        exact ⟨_, rfl⟩
      · rw [if_neg c2]
        exact ⟨_, rfl⟩

/-! ### a valid relation's text is read back -/
theorem numB_dig (d : Nat) (h : d < 10) : numB (d : Int) = (⟨#[UInt8.ofNat (48 + d)]⟩ : ByteArray) := by
  unfold numB Lib.itoa
  rw [if_neg (by omega), Int.toNat_natCast, Lib.decDigits, dif_pos h]
theorem one_byte (s : ByteArray) (h : s.size = 1) : ∃ c, s = (⟨#[c]⟩ : ByteArray) := by
  obtain ⟨⟨l⟩⟩ := s
  have h' : l.length = 1 := h
  match l, h' with
  | [c], _ => exact ⟨c, rfl⟩
theorem vRel_shape (r : S28) (h : vRel r = true) : ∃ (c : UInt8) (d1 d2 : Nat), d1 < 10 ∧ d2 < 10 ∧ r = (⟨(⟨#[c]⟩ : ByteArray), (d1 : Int), (d2 : Int)⟩ : S28) := by
  unfold vRel at h
  rw [Bool.and_eq_true, Bool.and_eq_true, decide_eq_true_iff] at h
  unfold inB at h
  rw [decide_eq_true_iff, decide_eq_true_iff] at h
  obtain ⟨n, a, b⟩ := r
  dsimp only at h
  obtain ⟨⟨⟨h0, _⟩, h1⟩, h2⟩ := h
  obtain ⟨c, rfl⟩ := one_byte n (by omega)
  refine ⟨c, a.toNat, b.toNat, by omega, by omega, ?_⟩
  rw [Int.toNat_of_nonneg (by omega), Int.toNat_of_nonneg (by omega)]
theorem prN (t : ByteArray) (k : Nat) (hk : 30 < k) : ∃ n a b v, spec_ParseRelation.f k t = some (n, a, b, v) ∧ impl_ParseRelation.f t = some (n, a, b, v) ∧ (v = true → okN a ∧ okN b ∧ rTx (⟨n, a, b⟩ : S28) = t) := by
  have w64b : ∀ x : Int, okN (wrap64 x) := fun x => by unfold okN wrap64; omega
  unfold spec_ParseRelation.f impl_ParseRelation.f
  by_cases h : (t.size : Int) = 4
  · have f := frB2 (⟨t.extract 0 1, wrap64 ((wrap64 (bt t 3)) - 48), wrap64 ((wrap64 (bt t 1)) - 48)⟩ : S28) (w64b _) (w64b _) k hk
    have f1 : spec_FormatRelation.f k (t.extract 0 1) (wrap64 ((wrap64 (bt t 3)) - 48)) (wrap64 ((wrap64 (bt t 1)) - 48)) = _ := f.1
    have f2 : impl_FormatRelation.f (t.extract 0 1) (wrap64 ((wrap64 (bt t 3)) - 48)) (wrap64 ((wrap64 (bt t 1)) - 48)) = _ := f.2
    rw [f1, f2]
    simp only [h, Option.bind_some]
    by_cases g : (rTx (⟨t.extract 0 1, wrap64 ((wrap64 (bt t 3)) - 48), wrap64 ((wrap64 (bt t 1)) - 48)⟩ : S28)).toList = t.toList
    · refine ⟨_, _, _, true, by simp [g], by simp [g], fun _ => ⟨w64b _, w64b _, tl_inj.1 g⟩⟩
    · refine ⟨_, _, _, false, by simp [g]; exact ⟨rfl, rfl, rfl⟩, by simp [g], fun e => absurd e (by decide)⟩
  · rw [if_neg h, if_neg h]
    exact ⟨_, _, _, _, rfl, rfl, fun e => absurd e (by decide)⟩
theorem rTx4 (c : UInt8) (d1 d2 : Nat) (h1 : d1 < 10) (h2 : d2 < 10) (hv : vRel (⟨(⟨#[c]⟩ : ByteArray), (d1 : Int), (d2 : Int)⟩ : S28) = true) : rTx (⟨(⟨#[c]⟩ : ByteArray), (d1 : Int), (d2 : Int)⟩ : S28) = (⟨#[c, UInt8.ofNat (48 + d2), 47, UInt8.ofNat (48 + d1)]⟩ : ByteArray) := by
  unfold rTx
  rw [if_pos hv, numB_dig d1 h1, numB_dig d2 h2]
  rfl
theorem bt4 (c a b e : UInt8) : bt (⟨#[c, a, b, e]⟩ : ByteArray) 3 = (e.toNat : Int) ∧ bt (⟨#[c, a, b, e]⟩ : ByteArray) 1 = (a.toNat : Int) := ⟨rfl, rfl⟩
theorem prT (r : S28) (h : vRel r = true) : impl_ParseRelation.f (rTx r) = some (r.f0, r.f1, r.f2, true) := by
  obtain ⟨c, d1, d2, h1, h2, rfl⟩ := vRel_shape r h
  have e := rTx4 c d1 d2 h1 h2 h
  have u1 : (UInt8.ofNat (48 + d1)).toNat = 48 + d1 := by rw [UInt8.toNat_ofNat']; omega
  have u2 : (UInt8.ofNat (48 + d2)).toNat = 48 + d2 := by rw [UInt8.toNat_ofNat']; omega
  obtain ⟨b3, b1⟩ := bt4 c (UInt8.ofNat (48 + d2)) 47 (UInt8.ofNat (48 + d1))
  have w1 : wrap64 ((wrap64 (((UInt8.ofNat (48 + d1)).toNat : Nat) : Int)) - 48) = (d1 : Int) := by rw [u1, w64 (n := ((48 + d1 : Nat) : Int)) (by omega) (by omega), w64 (by omega) (by omega)]; omega
  have w2 : wrap64 ((wrap64 (((UInt8.ofNat (48 + d2)).toNat : Nat) : Int)) - 48) = (d2 : Int) := by rw [u2, w64 (n := ((48 + d2 : Nat) : Int)) (by omega) (by omega), w64 (by omega) (by omega)]; omega
  have f := (frB2 (⟨(⟨#[c]⟩ : ByteArray), (d1 : Int), (d2 : Int)⟩ : S28) (show okN (d1 : Int) from ⟨by omega, by omega⟩) (show okN (d2 : Int) from ⟨by omega, by omega⟩) 31 (by omega)).2
  have x0 : (⟨#[c, UInt8.ofNat (48 + d2), 47, UInt8.ofNat (48 + d1)]⟩ : ByteArray).extract 0 1 = (⟨#[c]⟩ : ByteArray) := by
    apply ByteArray.ext; rfl
  have sz : (⟨#[c, UInt8.ofNat (48 + d2), 47, UInt8.ofNat (48 + d1)]⟩ : ByteArray).size = 4 := rfl
  rw [e] at f ⊢
  unfold impl_ParseRelation.f
  rw [b3, b1, w1, w2, x0, sz, if_pos (by decide), if_pos (by decide), if_pos (by decide), if_pos (by decide), if_pos (by decide)]
  rw [show impl_FormatRelation.f (⟨#[c]⟩ : ByteArray) (d1 : Int) (d2 : Int) = _ from f, Option.bind_some, if_pos rfl]
theorem prE : impl_ParseRelation.f (⟨#[]⟩ : ByteArray) = some ((⟨#[]⟩ : ByteArray), 0, 0, false) := by
  unfold impl_ParseRelation.f
  rw [if_neg (by decide)]

theorem vRelsFrom_at (l : List S28) : ∀ (d i : Nat), vRelsFrom l d i = true → ∀ j, i ≤ j → j < i + d → vRel (l.getD j z28) = true
  | 0, i, _, j, h1, h2 => by omega
  | d + 1, i, h, j, h1, h2 => by
    rw [vRelsFrom, Bool.and_eq_true, Bool.and_eq_true] at h
    by_cases hj : j = i
    · subst hj
      exact h.1.1
    · exact vRelsFrom_at l d (i + 1) h.2 j (by omega) (by omega)
/-! ### names rise, so a name is first found at its own place -/
theorem vRelsFrom_less (l : List S28) : ∀ (d i : Nat), vRelsFrom l d i = true → ∀ j, i ≤ j → j < i + d → j = 0 ∨ Op.bytesLess (l.getD (j - 1) z28).f0.toList (l.getD j z28).f0.toList = true
  | 0, i, _, j, h1, h2 => by omega
  | d + 1, i, h, j, h1, h2 => by
    rw [vRelsFrom, Bool.and_eq_true, Bool.and_eq_true, Bool.or_eq_true, decide_eq_true_iff] at h
    by_cases hj : j = i
    · subst hj
      exact h.1.2
    · exact vRelsFrom_less l d (i + 1) h.2 j (by omega) (by omega)
theorem vRelsFrom_len (l : List S28) : ∀ (d i : Nat), vRelsFrom l d i = true → (l.length : Int) ≤ 4
  | 0, i, h => by rw [vRelsFrom, decide_eq_true_iff] at h; exact h
  | d + 1, i, h => by
    rw [vRelsFrom, Bool.and_eq_true] at h
    exact vRelsFrom_len l d (i + 1) h.2
theorem one_toList (c : UInt8) : (⟨#[c]⟩ : ByteArray).toList = [c] := by rw [tl_eq]
theorem name_lt (l : List S28) (h : vRels l = true) (i : Nat) (hi : i < l.length) : ∀ j, j < i → bt (l.getD j z28).f0 0 < bt (l.getD i z28).f0 0 := by
  induction i with
  | zero => intro j hj; omega
  | succ i ih =>
    have v1 := vRelsFrom_at l l.length 0 h i (by omega) (by omega)
    have v2 := vRelsFrom_at l l.length 0 h (i + 1) (by omega) (by omega)
    have hs : bt (l.getD i z28).f0 0 < bt (l.getD (i + 1) z28).f0 0 := by
      rcases vRelsFrom_less l l.length 0 h (i + 1) (by omega) (by omega) with q | q
      · omega
      · rw [show i + 1 - 1 = i from rfl] at q
        obtain ⟨c1, _, _, _, _, e1⟩ := vRel_shape _ v1
        obtain ⟨c2, _, _, _, _, e2⟩ := vRel_shape _ v2
        rw [e1, e2] at q ⊢
        simp only [one_toList, Op.bytesLess, Bool.and_false, Bool.or_false, decide_eq_true_iff] at q
        show ((c1.toNat : Nat) : Int) < ((c2.toNat : Nat) : Int)
        have := UInt8.lt_iff_toNat_lt.1 q
        omega
    intro j hj
    by_cases c : j = i
    · rw [c]; exact hs
    · have := ih (by omega) j (by omega)
      omega
theorem idxOwn (l : List S28) (h : vRels l = true) (i : Nat) (hi : i < l.length) : impl_RelationIndex.f l (rd_T28 l (i : Int)).f0 = some (i : Int) := by
  unfold impl_RelationIndex.f rd_T28
  rw [Int.toNat_natCast, idxW_hit (nameIs (l.getD i z28).f0) z28 l i 0 hi ?_ ?_]
  · simp
  · intro j hj
    unfold nameIs
    rw [Bool.eq_false_iff, ne_eq, beq_iff_eq, tl_inj]
    intro e
    have := name_lt l h i hi j hj
    rw [e] at this
    omega
  · unfold nameIs
    simp

theorem loopV (l : List S28) (h : vRels l = true) (d : Nat) : ∀ (i : Nat), i + d = l.length → ∀ k, 2 * d + 2 < k → laws_FnRelationFormat.l0 k l i = some true := by
  have hl := vRelsFrom_len l l.length 0 h
  induction d with
  | zero =>
    intro i hd k hk
    obtain ⟨k, rfl, hk⟩ := fuel hk
    obtain ⟨k, rfl⟩ : ∃ z, k = z + 1 := ⟨k - 1, by omega⟩
    rw [laws_FnRelationFormat.l0, if_neg (by omega), laws_FnRelationFormat.j2, if_neg (by decide)]
  | succ d ih =>
    intro i hd k hk
    obtain ⟨k, rfl, hk⟩ := fuel hk
    obtain ⟨k, rfl⟩ : ∃ z, k = z + 1 := ⟨k - 1, by omega⟩
    rw [laws_FnRelationFormat.l0, if_pos (by omega), show spec_AreValidRelations.f l = some true by unfold spec_AreValidRelations.f; rw [h], Option.bind_some, laws_FnRelationFormat.j2, if_pos rfl, if_pos (by omega), if_pos (by omega), idxOwn l h i (by omega), Option.bind_some, if_pos rfl, show wrap64 ((i : Int) + 1) = ((i + 1 : Nat) : Int) by rw [w64 (by omega) (by omega)]; omega]
    exact ih (i + 1) (by omega) k (by omega)
theorem loopA (l : List S28) (k : Nat) (hk : 100 < k) : laws_FnRelationFormat.j0 k l false = some true := by
  obtain ⟨k, rfl⟩ : ∃ z, k = z + 1 := ⟨k - 1, by omega⟩
  rw [laws_FnRelationFormat.j0, if_neg (by decide)]
  by_cases h : vRels l = true
  · have hl := vRelsFrom_len l l.length 0 h
    exact loopV l h l.length 0 (by omega) k (by omega)
  · obtain ⟨k, rfl⟩ : ∃ z, k = z + 1 := ⟨k - 1, by omega⟩
    obtain ⟨k, rfl⟩ : ∃ z, k = z + 1 := ⟨k - 1, by omega⟩
    rw [laws_FnRelationFormat.l0, show spec_AreValidRelations.f l = some false by unfold spec_AreValidRelations.f; rw [Bool.eq_false_iff.2 h]]
    split
    · rw [Option.bind_some, laws_FnRelationFormat.j2, if_neg (by decide)]
    · rw [laws_FnRelationFormat.j2, if_neg (by decide)]

theorem FnRelationFormat : FnRelationFormatPure := by
  intro s hs
  by_cases hn : (s.length : Int) > 1048576
  · refine ⟨0, ?_⟩
    unfold laws_FnRelationFormat.f laws_big.f
    rw [decide_eq_true hn, Option.bind_some, if_pos rfl]
  have hsl : s.length ≤ 1048576 := by omega
  refine ⟨3000001, ?_⟩
  generalize hk : (3000001 : Nat) = k
  obtain ⟨n, a, b, e1, oa, ob⟩ := drawFR s hsl k (by omega)
  obtain ⟨t, e2⟩ := drawPR s hsl k (by omega)
  obtain ⟨l, e3⟩ := drawVR s hsl k (by omega)
  have f := (frB2 (⟨n, a, b⟩ : S28) oa ob k (by omega)).2
  have f' : impl_FormatRelation.f n a b = some (rTx (⟨n, a, b⟩ : S28)) := f
  have v' : spec_IsValidRelation.f n a b = some (vRel (⟨n, a, b⟩ : S28)) := vRelS (⟨n, a, b⟩ : S28)
  obtain ⟨n2, a2, b2, v2, p1, p2, p3⟩ := prN t k (by omega)
  have hA : impl_AreValidRelations.f l = spec_AreValidRelations.f l := rfl
  have hL := loopA l k (by omega)
  unfold laws_FnRelationFormat.f
  rw [show laws_big.f s = some false by unfold laws_big.f; rw [decide_eq_false hn], Option.bind_some, if_neg (by decide), e1, Option.bind_some]
  simp only
  rw [f', Option.bind_some, e2]
  have tail : ∀ (q : Option Bool), (if (v2 != v2) = true then laws_FnRelationFormat.j0 k l true else if v2 = true then ((impl_FormatRelation.f n2 a2 b2).bind fun t337 => if t337.toList = t.toList then q else laws_FnRelationFormat.j0 k l true) else q) = q := by
    intro q
    rw [if_neg (by simp)]
    by_cases c : v2 = true
    · obtain ⟨o1, o2, o3⟩ := p3 c
      have g : impl_FormatRelation.f n2 a2 b2 = some (rTx (⟨n2, a2, b2⟩ : S28)) := (frB2 (⟨n2, a2, b2⟩ : S28) o1 o2 k (by omega)).2
      rw [if_pos c, g, Option.bind_some, o3, if_pos rfl]
    · rw [if_neg c]
  by_cases h : vRel (⟨n, a, b⟩ : S28) = true
  · have g := prT _ h
    rw [g, Option.bind_some, Option.bind_some, p2, Option.bind_some, p1, Option.bind_some, e3, Option.bind_some, v', Option.bind_some, h]
    simp only [Option.bind_some, bne_self_eq_false, beq_self_eq_true, Bool.not_true, Bool.or_self, if_true, Bool.false_eq_true, if_false]
    simp only [hA, spec_AreValidRelations.f, Option.bind_some, bne_self_eq_false, hL]
    exact (by simpa using tail (some true))
  · have x : rTx (⟨n, a, b⟩ : S28) = (⟨#[]⟩ : ByteArray) := by unfold rTx; rw [if_neg h]
    rw [x, prE, Option.bind_some, Option.bind_some, p2, Option.bind_some, p1, Option.bind_some, e3, Option.bind_some, v', Option.bind_some, Bool.eq_false_iff.2 h]
    simp only [Option.bind_some, bne_self_eq_false, Bool.false_eq_true, if_false]
    simp only [hA, spec_AreValidRelations.f, Option.bind_some, bne_self_eq_false, hL]
    exact (by simpa using tail (some true))

end Go.Proofs.YtdpaopfghggiaaaDoor.Pure
