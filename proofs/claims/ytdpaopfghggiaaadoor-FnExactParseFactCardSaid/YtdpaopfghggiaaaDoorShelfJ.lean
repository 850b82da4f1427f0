/- strings.Join's contract at this program, out of the library's own, and impl.barred by it. -/
import Derived.Shelf.Strings.OnBuilder
import Derived.Test.YtdpaopfghggiaaaDoorShelf
namespace Go.Proofs.YtdpaopfghggiaaaDoor.Shelf
open Go.Sort Go.Shelf Go.RowKit Go.Proofs.YtdpaopfghggiaaaDoorW.PrintWords Go.Proofs.YtdpaopfghggiaaaDoorW.PrintLast Go.Proofs.YtdpaopfghggiaaaDoorW.PrintMore Go.Proofs.YtdpaopfghggiaaaDoor.Base
set_option maxRecDepth 100000
set_option linter.unusedVariables false
def laysJoin_ren : Go.Shelf.Ren where
  f := fun x => match x with | 156 => 84 | 165 => 89 | 166 => 90 | 169 => 91 | 240 => 103 | 241 => 104 | 276 => 114 | 277 => 115 | n => n
  t := fun x => match x with | 31 => 80 | 9 => 9 | 3 => 3 | 4 => 4 | 0 => 0 | 20 => 20 | 72 => 105 | 76 => 90 | 70 => 103 | 37 => 35 | 75 => 89 | 127 => 121 | 164 => 134 | 5 => 5 | 80 => 107 | n => n
  g := fun x => x
theorem laysJoin : Lays.n156 Tryd.prog laysJoin_ren where
  mixed := by kernel_rfl
  f156 := Eq.trans Tryd.func84 (congrArg some (by kernel_rfl))
  f165 := Eq.trans Tryd.func89 (congrArg some (by kernel_rfl))
  f166 := Eq.trans Tryd.func90 (congrArg some (by kernel_rfl))
  f169 := Eq.trans Tryd.func91 (congrArg some (by kernel_rfl))
  f240 := Eq.trans Tryd.func103 (congrArg some (by kernel_rfl))
  f241 := Eq.trans Tryd.func104 (congrArg some (by kernel_rfl))
  f276 := Eq.trans Tryd.func114 (congrArg some (by kernel_rfl))
  f277 := Eq.trans Tryd.func115 (congrArg some (by kernel_rfl))
  t0 := Tryd.underlying0
  a0 := Tryd.isAgg0
  z0 := Tryd.sizeOf0
  v0 := Tryd.zeroValue0
  t3 := Tryd.underlying3
  a3 := Tryd.isAgg3
  z3 := Tryd.sizeOf3
  v3 := Tryd.zeroValue3
  t4 := Tryd.underlying4
  a4 := Tryd.isAgg4
  z4 := Tryd.sizeOf4
  v4 := Tryd.zeroValue4
  t9 := Tryd.underlying9
  a9 := Tryd.isAgg9
  z9 := Tryd.sizeOf9
  v9 := Tryd.zeroValue9
  t20 := Tryd.underlying20
  a20 := Tryd.isAgg20
  z20 := Tryd.sizeOf20
  v20 := Tryd.zeroValue20
  t31 := Tryd.underlying80
  a31 := Tryd.isAgg80
  z31 := Tryd.sizeOf80
  v31 := Tryd.zeroValue80
  t37 := Tryd.underlying35
  a37 := Tryd.isAgg35
  z37 := Tryd.sizeOf35
  v37 := Tryd.zeroValue35
  t70 := Tryd.underlying103
  a70 := Tryd.isAgg103
  z70 := Tryd.sizeOf103
  v70 := Tryd.zeroValue103
  t72 := Tryd.underlying105
  a72 := Tryd.isAgg105
  z72 := Tryd.sizeOf105
  v72 := Tryd.zeroValue105
  t75 := Tryd.underlying89
  a75 := Tryd.isAgg89
  z75 := Tryd.sizeOf89
  v75 := Tryd.zeroValue89
  t76 := Tryd.underlying90
  a76 := Tryd.isAgg90
  z76 := Tryd.sizeOf90
  v76 := Tryd.zeroValue90
  t127 := Tryd.underlying121
  a127 := Tryd.isAgg121
  z127 := Tryd.sizeOf121
  v127 := Tryd.zeroValue121
  t164 := Tryd.underlying134
  a164 := Tryd.isAgg134
  z164 := Tryd.sizeOf134
  v164 := Tryd.zeroValue134
theorem extraJoin : Builder.Extra Tryd.prog laysJoin_ren where
  sizeBuilder := by kernel_rfl
  liesBuilder := by kernel_rfl
  t5 := Tryd.underlying5
  a5 := Tryd.isAgg5
  z5 := Tryd.sizeOf5
  v5 := Tryd.zeroValue5
  infoByte := by kernel_rfl
  cellsByte := by kernel_rfl
  sizeByte := by kernel_rfl
  neB5 := by decide
/-- The bytes of a list of strings, one behind the other. -/
def cat_ : List ByteArray → List UInt8
  | [] => []
  | x :: xs => x.toList ++ cat_ xs
theorem cat_join : ∀ xs : List ByteArray, Lib.join (xs.map fun x => x.data.toList) (⟨#[]⟩ : ByteArray).data.toList = cat_ xs
  | [] => rfl
  | x :: xs => by
    have ih := cat_join xs
    rw [cat_, ← ih, tl_eq]
    unfold Lib.join
    cases xs with
    | nil => simp [List.intercalate]
    | cons y ys => simp [List.intercalate]
theorem cat_app : ∀ xs ys : List ByteArray, cat_ (xs ++ ys) = cat_ xs ++ cat_ ys
  | [], _ => rfl
  | x :: xs, ys => by rw [List.cons_append, cat_, cat_, cat_app xs ys, List.append_assoc]
theorem cat_len (xs : List ByteArray) (n : Nat) : (cat_ (xs.take n)).length + (cat_ (xs.drop n)).length = (cat_ xs).length := by
  rw [← List.length_append, ← cat_app, List.take_append_drop]
theorem Join (A : Option Addr) (xs : List ByteArray) (c : Nat) (w : World) (hc : xs.length ≤ c) (hC : Kd.C Kd.string w A xs.length xs) (hN : xs.length ≤ 140737488355328) (hl : (cat_ xs).length ≤ 140737488355328) :
    Calls Tryd.prog 84 #[.slice A xs.length c, .string ⟨#[]⟩] w fun e w' => e = .returned (.string ⟨(cat_ xs).toArray⟩) ∧ Below w.heap.size w w' := by
  cases xs with
  | nil => exact (Any.strings_Join_none laysJoin extraJoin A c ⟨#[]⟩ w).mono fun e w' ⟨he, hw⟩ => ⟨he, hw ▸ Below.refl _ _⟩
  | cons x xs =>
    obtain ⟨ad, rfl, h0⟩ := Kd.at_string hC 0 (by omega) (by simp only [List.length_cons]; omega)
    rw [show (0 : Int).toNat = 0 from rfl, Addr.add, if_pos rfl] at h0
    have hs : ad = ⟨ad.block, ad.off, none⟩ := by
      obtain ⟨b, o, sp⟩ := ad
      cases sp with
      | none => rfl
      | some z =>
        simp only [World.cell?] at h0
        split at h0 <;> simp at h0
    have hb : ad.block < w.heap.size := by
      rcases Nat.lt_or_ge ad.block w.heap.size with h | h
      · exact h
      · simp only [World.cell?, Array.getElem?_eq_none h] at h0
        cases h0
    rw [hs]
    rw [← cat_join] at hl ⊢
    refine Any.strings_Join laysJoin extraJoin ad.block ad.off c (x :: xs) ⟨#[]⟩ w ?_ hb hN hc hl
    intro j y hj
    obtain ⟨hlt, hy⟩ := List.getElem?_eq_some_iff.1 hj
    obtain ⟨ad', e, hc'⟩ := Kd.at_string hC j (by omega) (by omega)
    obtain rfl := Option.some.inj e
    rw [Int.toNat_natCast] at hc'
    have : ad.add j = ⟨ad.block, ad.off + j, none⟩ := by
      unfold Addr.add
      by_cases q : j = 0
      · rw [if_pos q, q]; exact hs
      · rw [if_neg q]
    rw [← this, hc']
    congr 2
    unfold rdOf
    rw [Int.toNat_natCast, List.getD_eq_getElem?_getD, hj]
    rfl
/-- Strings, one behind the other, with a text between them. -/
def jn_ (xs : List ByteArray) (s : ByteArray) : List UInt8 := Lib.join (xs.map fun x => x.data.toList) s.data.toList
theorem JoinS (A : Option Addr) (xs : List ByteArray) (c : Nat) (s : ByteArray) (w : World) (hc : xs.length ≤ c) (hC : Kd.C Kd.string w A xs.length xs) (hN : xs.length ≤ 140737488355328) (hl : (jn_ xs s).length ≤ 140737488355328) :
    Calls Tryd.prog 84 #[.slice A xs.length c, .string s] w fun e w' => e = .returned (.string ⟨(jn_ xs s).toArray⟩) ∧ Below w.heap.size w w' := by
  cases xs with
  | nil => exact (Any.strings_Join_none laysJoin extraJoin A c s w).mono fun e w' ⟨he, hw⟩ => ⟨he, hw ▸ Below.refl _ _⟩
  | cons x xs =>
    obtain ⟨ad, rfl, h0⟩ := Kd.at_string hC 0 (by omega) (by simp only [List.length_cons]; omega)
    rw [show (0 : Int).toNat = 0 from rfl, Addr.add, if_pos rfl] at h0
    have hs : ad = ⟨ad.block, ad.off, none⟩ := by
      obtain ⟨b, o, sp⟩ := ad
      cases sp with
      | none => rfl
      | some z =>
        simp only [World.cell?] at h0
        split at h0 <;> simp at h0
    have hb : ad.block < w.heap.size := by
      rcases Nat.lt_or_ge ad.block w.heap.size with h | h
      · exact h
      · simp only [World.cell?, Array.getElem?_eq_none h] at h0
        cases h0
    rw [hs]
    unfold jn_ at hl ⊢
    refine Any.strings_Join laysJoin extraJoin ad.block ad.off c (x :: xs) s w ?_ hb hN hc hl
    intro j y hj
    obtain ⟨hlt, hy⟩ := List.getElem?_eq_some_iff.1 hj
    obtain ⟨ad', e, hc'⟩ := Kd.at_string hC j (by omega) (by omega)
    obtain rfl := Option.some.inj e
    rw [Int.toNat_natCast] at hc'
    have : ad.add j = ⟨ad.block, ad.off + j, none⟩ := by
      unfold Addr.add
      by_cases q : j = 0
      · rw [if_pos q, q]; exact hs
      · rw [if_neg q]
    rw [← this, hc']
    congr 2
    unfold rdOf
    rw [Int.toNat_natCast, List.getD_eq_getElem?_getD, hj]
    rfl
end Go.Proofs.YtdpaopfghggiaaaDoor.Shelf
