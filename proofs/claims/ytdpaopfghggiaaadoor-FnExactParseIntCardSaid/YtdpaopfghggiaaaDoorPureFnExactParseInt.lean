/- The law FnExactParseInt answers true for every string that the row admits: both texts answer alike. -/
import Derived.Test.YtdpaopfghggiaaaDoorGFnExactParseInt
import Derived.Test.YtdpaopfghggiaaaDoorBase
import Derived.Lib.ItoaLen
import Derived.Lib.Atoi
namespace Go.Proofs.YtdpaopfghggiaaaDoor.Pure
open Go.RowKit Go.Proofs.YtdpaopfghggiaaaDoor.PFnExactParseInt Go.Proofs.YtdpaopfghggiaaaDoorW.PrintWords Go.Proofs.YtdpaopfghggiaaaDoorW.PrintLast Go.Proofs.YtdpaopfghggiaaaDoorW.PrintMore Go.Proofs.YtdpaopfghggiaaaDoor.Base
set_option linter.unusedVariables false
set_option linter.unusedSimpArgs false

/-- What FormatInt lays for a number's magnitude: nothing for 0, else its digits. -/
def dig (u : Nat) : List UInt8 := if u = 0 then [] else Lib.decDigits u
theorem dig_step (u : Nat) (h : 0 < u) : dig u = dig (u / 10) ++ [UInt8.ofNat (48 + u % 10)] := by
  unfold dig
  rw [if_neg (by omega), Lib.decDigits]
  by_cases c : u < 10
  · rw [dif_pos c, if_pos (by omega), List.nil_append, Nat.mod_eq_of_lt c]
  · rw [dif_neg c, if_neg (by omega)]
theorem sn_cons (z : Int) (l : List UInt8) : strOfNums [z] ++ (⟨l.toArray⟩ : ByteArray) = ⟨(UInt8.ofNat z.toNat :: l).toArray⟩ := by
  apply ByteArray.ext
  apply Array.ext'
  rw [ByteArray.data_append, Array.toList_append, sn_toList]
  simp
theorem sz_mk (l : List UInt8) : (⟨l.toArray⟩ : ByteArray).size = l.length := by
  rw [show (⟨l.toArray⟩ : ByteArray).size = (⟨l.toArray⟩ : ByteArray).data.size from rfl]; simp
def fin (neg : Bool) (l : List UInt8) : ByteArray := if neg = true then ⟨(45 :: l).toArray⟩ else ⟨l.toArray⟩
theorem fil (d : Nat) : ∀ (u : Nat) (x : Int) (neg : Bool) (l : List UInt8), (x = u ∨ x = -(u : Int)) → u < 10 ^ d → u ≤ 9223372036854775808 → l.length + d ≤ 1000 → ∀ k, d < k → spec_FormatInt.l0 k x ⟨l.toArray⟩ neg = some (fin neg (dig u ++ l)) := by
  induction d with
  | zero =>
    intro u x neg l hx hu _ hl k hk
    obtain ⟨k, rfl, hk⟩ := fuel hk
    rw [Nat.pow_zero] at hu
    rw [spec_FormatInt.l0, if_pos (by omega), show u = 0 by omega]
    unfold fin dig
    rw [if_pos rfl, List.nil_append]
    by_cases h : neg = true
    · rw [if_pos h, if_pos h, if_pos (by rw [sz_mk]; omega)]
      congr 1
    · rw [if_neg h, if_neg h]
  | succ d ih =>
    intro u x neg l hx hu hb hl k hk
    obtain ⟨k, rfl, hk⟩ := fuel hk
    by_cases h0 : u = 0
    · rw [spec_FormatInt.l0, if_pos (by omega), h0]
      unfold fin dig
      rw [if_pos rfl, List.nil_append]
      by_cases h : neg = true
      · rw [if_pos h, if_pos h, if_pos (by rw [sz_mk]; omega)]
        congr 1
      · rw [if_neg h, if_neg h]
    · have hm : Int.tmod x 10 = (u % 10 : Nat) ∨ Int.tmod x 10 = -((u % 10 : Nat) : Int) := by
        rcases hx with rfl | rfl
        · left; rw [Int.tmod_eq_emod_of_nonneg (by omega)]; omega
        · right; rw [Int.neg_tmod, Int.tmod_eq_emod_of_nonneg (by omega)]; omega
      have hd : Int.tdiv x 10 = (u / 10 : Nat) ∨ Int.tdiv x 10 = -((u / 10 : Nat) : Int) := by
        rcases hx with rfl | rfl
        · left; rw [Int.tdiv_eq_ediv_of_nonneg (by omega)]; omega
        · right; rw [Int.neg_tdiv, Int.tdiv_eq_ediv_of_nonneg (by omega)]; omega
      have h1 : (strOfNums [((48 + u % 10 : Nat) : Int)]).size = 1 := by rw [sn_size]; rfl
      have hs := ih (u / 10) (Int.tdiv x 10) neg (UInt8.ofNat (48 + u % 10) :: l) hd (by rw [Nat.pow_succ] at hu; omega) (by omega) (by simp only [List.length_cons]; omega) k (by omega)
      have hz : wrap64 (Int.tdiv x 10) = Int.tdiv x 10 := w64 (by omega) (by omega)
      have hn : ∀ z : Int, z = ((u % 10 : Nat) : Int) → wrap64 (48 + z) % 256 = ((48 + u % 10 : Nat) : Int) := by
        intro z e
        rw [w64 (by omega) (by omega)]
        omega
      have hfin : spec_FormatInt.l0 k (wrap64 (Int.tdiv x 10)) (strOfNums [((48 + u % 10 : Nat) : Int)] ++ ⟨l.toArray⟩) neg = some (fin neg (dig u ++ l)) := by
        rw [hz, sn_cons, Int.toNat_natCast, hs, dig_step u (by omega), List.append_assoc]
        rfl
      rw [spec_FormatInt.l0, if_neg (by omega)]
      by_cases hc : Int.tmod x 10 < 0
      · rw [if_pos hc, Option.bind_some, hn _ (by rw [w64 (by omega) (by omega)]; omega), if_pos (by rw [h1, sz_mk]; omega)]
        exact hfin
      · rw [if_neg hc, Option.bind_some, hn _ (by omega), if_pos (by rw [h1, sz_mk]; omega)]
        exact hfin
theorem fiS (n : Int) (h0 : -9223372036854775808 ≤ n) (h1 : n ≤ 9223372036854775807) (k : Nat) (hk : 30 < k) : spec_FormatInt.f k n = some ⟨(Lib.itoa n).toArray⟩ := by
  unfold spec_FormatInt.f
  by_cases h : n = 0
  · rw [if_pos h, h]
    unfold Lib.itoa
    rw [if_neg (by omega), show (0 : Int).toNat = 0 from rfl, Lib.decDigits, dif_pos (by omega)]
    rfl
  · rw [if_neg h]
    have hp : (10 : Nat) ^ 20 = 100000000000000000000 := by decide
    have := fil 20 n.natAbs n (decide (n < 0)) [] (by omega) (by omega) (by omega) (by simp) k (by omega)
    rw [show (⟨#[]⟩ : ByteArray) = ⟨([] : List UInt8).toArray⟩ from rfl, this, List.append_nil]
    unfold fin dig Lib.itoa
    rw [if_neg (show ¬ n.natAbs = 0 by omega)]
    by_cases hn : n < 0
    · rw [if_pos (decide_eq_true hn), if_pos hn]
    · rw [if_neg (by simpa using hn), if_neg hn, show n.natAbs = n.toNat by omega]

/-- What spec.ParseInt's loop comes to: digits alone count. -/
def gN : List UInt8 → Int → Int
  | [], n => n
  | b :: r, n => gN r (if 48 ≤ b.toNat ∧ b.toNat ≤ 57 then wrap64 (wrap64 (n * 10) + ((b.toNat : Int) - 48) % 256) else n)
def gK : List UInt8 → Int → Int
  | [], k => k
  | b :: r, k => gK r (if 48 ≤ b.toNat ∧ b.toNat ≤ 57 then k + 1 else k)
theorem gK_le : ∀ (l : List UInt8) (k : Int), gK l k ≤ k + l.length ∧ k ≤ gK l k
  | [], k => by rw [gK]; simp
  | b :: r, k => by
    rw [gK, List.length_cons]
    by_cases c : 48 ≤ b.toNat ∧ b.toNat ≤ 57
    · rw [if_pos c]
      have := gK_le r (k + 1)
      omega
    · rw [if_neg c]
      have := gK_le r k
      omega
def fin2 (s : ByteArray) (neg : Bool) (n k : Int) : Int × Bool :=
  if k > 9 then (0, false) else if (s.size : Int) > 10 then (0, false) else
    if (⟨(Lib.itoa (if neg = true then wrap64 (-n) else n)).toArray⟩ : ByteArray).toList = s.toList then (if neg = true then wrap64 (-n) else n, true) else (0, false)
theorem pj2 (s : ByteArray) (n k : Int) (neg : Bool) (n0 : -9223372036854775808 ≤ n) (n1 : n ≤ 9223372036854775807) (f : Nat) (hf : 31 < f) : spec_ParseInt.j2 f s n k neg = some (fin2 s neg n k) := by
  obtain ⟨f, rfl, hf⟩ := fuel hf
  have hw : -9223372036854775808 ≤ wrap64 (-n) ∧ wrap64 (-n) ≤ 9223372036854775807 := by unfold wrap64; omega
  rw [spec_ParseInt.j2, fiS _ hw.1 hw.2 f (by omega), fiS _ n0 n1 f (by omega)]
  simp only [Option.bind_some]
  unfold fin2
  cases neg
  · rw [if_neg (by decide)]
    simp only [Bool.false_eq_true, if_false]
    by_cases a : k > 9
    · rw [if_pos a, if_pos a]
    · rw [if_neg a, if_neg a]
      by_cases b : (s.size : Int) > 10
      · rw [if_pos b, if_pos b]
      · rw [if_neg b, if_neg b]
        split <;> rfl
  · rw [if_pos rfl]
    simp only [if_true]
    by_cases a : k > 9
    · rw [if_pos a, if_pos a]
    · rw [if_neg a, if_neg a]
      by_cases b : (s.size : Int) > 10
      · rw [if_pos b, if_pos b]
      · rw [if_neg b, if_neg b]
        split <;> rfl
theorem gN_b : ∀ (l : List UInt8) (n : Int), -9223372036854775808 ≤ n ∧ n ≤ 9223372036854775807 → -9223372036854775808 ≤ gN l n ∧ gN l n ≤ 9223372036854775807
  | [], n, h => by rw [gN]; exact h
  | b :: r, n, h => by
    rw [gN]
    refine gN_b r _ ?_
    split
    · unfold wrap64; omega
    · exact h
def isNeg (s : ByteArray) : Bool := match s.toList with | [] => false | b :: _ => b == 45
theorem tl_get (s : ByteArray) (i : Nat) (h : i < s.size) : s.toList[i]? = some (s[i]) ∧ bt s i = (s[i].toNat : Int) := by
  constructor
  · rw [tl_eq, Array.getElem?_toList]
    exact Array.getElem?_eq_getElem h
  · unfold bt
    rw [dif_pos (by rw [Int.toNat_natCast]; exact h)]
    rfl
theorem pl (s : ByteArray) (d : Nat) : ∀ (i : Nat) (n k : Int), i + d = min s.size 11 → -9223372036854775808 ≤ n ∧ n ≤ 9223372036854775807 → 0 ≤ k → k ≤ i → ∀ f, 2 * d + 40 < f → spec_ParseInt.l0 f s n k i = some (fin2 s (isNeg s) (gN ((s.toList.drop i).take d) n) (gK ((s.toList.drop i).take d) k)) := by
  induction d with
  | zero =>
    intro i n k hi hn hk0 hk f hf
    obtain ⟨f, rfl⟩ : ∃ z, f = z + 2 := ⟨f - 2, by omega⟩
    rw [List.take_zero, gN, gK]
    have hj : spec_ParseInt.j1 (f + 1) s n k i false = some (fin2 s (isNeg s) n k) := by
      rw [spec_ParseInt.j1, if_neg (by decide)]
      by_cases hs : (s.size : Int) > 0
      · rw [if_pos hs, if_pos (by omega)]
        have hz : (bt s 0 == 45) = isNeg s := by
          obtain ⟨t1, t2⟩ := tl_get s 0 (by omega)
          have t2 : bt s 0 = _ := t2
          unfold isNeg
          cases hl : s.toList with
          | nil => rw [hl] at t1; simp at t1
          | cons b r =>
            rw [hl] at t1
            simp at t1
            subst t1
            rw [t2]
            apply Bool.eq_iff_iff.2
            simp only [beq_iff_eq]
            exact ⟨fun e => UInt8.toNat_inj.1 (by simpa using (by omega : (s[0].toNat) = 45)), fun e => by rw [e]; rfl⟩
        rw [hz]
        exact pj2 s n k _ hn.1 hn.2 f (by omega)
      · rw [if_neg hs]
        have : isNeg s = false := by
          unfold isNeg
          have : s.toList = [] := by
            rw [tl_eq]
            apply List.eq_nil_of_length_eq_zero
            rw [Array.length_toList]
            show s.size = 0
            omega
          rw [this]
        rw [this]
        exact pj2 s n k _ hn.1 hn.2 f (by omega)
    rw [spec_ParseInt.l0]
    by_cases hs : (i : Int) < s.size
    · rw [if_pos hs, decide_eq_false (by omega)]
      exact hj
    · rw [if_neg hs]
      exact hj
  | succ d ih =>
    intro i n k hi hn hk0 hk f hf
    obtain ⟨f, rfl⟩ : ∃ z, f = z + 2 := ⟨f - 2, by omega⟩
    have hlt : i < s.size := by omega
    obtain ⟨t1, t2⟩ := tl_get s i hlt
    have hsp : (s.toList.drop i).take (d + 1) = s[i] :: (s.toList.drop (i + 1)).take d := by
      obtain ⟨hl, he⟩ := List.getElem?_eq_some_iff.1 t1
      rw [List.drop_eq_getElem_cons hl, List.take_succ_cons, he]
    have hb : s[i].toNat < 256 := UInt8.toNat_lt _
    rw [spec_ParseInt.l0, if_pos (by omega), decide_eq_true (by omega), spec_ParseInt.j1, if_pos rfl, if_pos (by omega), if_pos (by omega), hsp, gN, gK, t2, show wrap64 ((i : Int) + 1) = ((i + 1 : Nat) : Int) by rw [w64 (by omega) (by omega)]; omega]
    by_cases c : 48 ≤ s[i].toNat ∧ s[i].toNat ≤ 57
    · rw [if_pos (by omega), if_pos (by omega), if_pos c, if_pos c, w64 (n := k + 1) (by omega) (by omega)]
      exact ih (i + 1) _ _ (by omega) (by unfold wrap64; omega) (by omega) (by omega) f (by omega)
    · rw [if_neg c, if_neg c]
      by_cases c1 : ((s[i].toNat : Nat) : Int) ≥ 48
      · rw [if_pos c1, if_neg (by omega)]
        exact ih (i + 1) _ _ (by omega) hn hk0 (by omega) f (by omega)
      · rw [if_neg c1]
        exact ih (i + 1) _ _ (by omega) hn hk0 (by omega) f (by omega)
theorem gN_app : ∀ (l m : List UInt8) (n : Int), gN (l ++ m) n = gN m (gN l n)
  | [], _, _ => rfl
  | b :: r, m, n => by rw [List.cons_append, gN, gN, gN_app r m]
theorem gK_app : ∀ (l m : List UInt8) (n : Int), gK (l ++ m) n = gK m (gK l n)
  | [], _, _ => rfl
  | b :: r, m, n => by rw [List.cons_append, gK, gK, gK_app r m]
theorem dF_app : ∀ (l m : List UInt8) (a : Nat), Lib.decFrom a (l ++ m) = (Lib.decFrom a l).bind fun z => Lib.decFrom z m
  | [], _, _ => rfl
  | b :: r, m, a => by
    rw [List.cons_append, Lib.decFrom, Lib.decFrom]
    cases Lib.digitVal b with
    | none => rfl
    | some d => exact dF_app r m _
theorem dgt (d : Nat) (h : d < 10) : (UInt8.ofNat (48 + d)).toNat = 48 + d := by
  rw [UInt8.toNat_ofNat']; omega
theorem dec_step (u : Nat) : Lib.decDigits u = if u < 10 then [UInt8.ofNat (48 + u)] else Lib.decDigits (u / 10) ++ [UInt8.ofNat (48 + u % 10)] := by
  rw [Lib.decDigits]; split <;> rfl
theorem dec_dF (u : Nat) : Lib.decFrom 0 (Lib.decDigits u) = some u := by
  induction u using Nat.strongRecOn with
  | ind u ih =>
    rw [dec_step]
    by_cases h : u < 10
    · rw [if_pos h, Lib.decFrom, Lib.digitVal, dgt u h, if_pos (by omega)]
      simp [Lib.decFrom]
    · rw [if_neg h, dF_app, ih (u / 10) (by omega), Option.bind_some, Lib.decFrom, Lib.digitVal, dgt _ (by omega), if_pos (by omega)]
      simp only [Lib.decFrom]
      congr 1
      omega
theorem dec_gN (u : Nat) : u < 1000000000000000000 → gN (Lib.decDigits u) 0 = u := by
  induction u using Nat.strongRecOn with
  | ind u ih =>
    intro hu
    rw [dec_step]
    by_cases h : u < 10
    · rw [if_pos h, gN, dgt u h, if_pos (by omega), gN]
      unfold wrap64
      omega
    · rw [if_neg h, gN_app, ih (u / 10) (by omega) (by omega), gN, dgt _ (by omega), if_pos (by omega), gN, w64 (n := ((u / 10 : Nat) : Int) * 10) (by omega) (by omega), w64 (by omega) (by omega)]
      omega
theorem dec_gK1 (u : Nat) : 1 ≤ gK (Lib.decDigits u) 0 := by
  rw [dec_step]
  by_cases h : u < 10
  · rw [if_pos h, gK, dgt u h, if_pos (by omega), gK]; omega
  · rw [if_neg h, gK_app, gK, dgt _ (by omega), if_pos (by omega), gK]
    have := (gK_le (Lib.decDigits (u / 10)) 0).2
    omega
theorem dec_gK (k : Nat) : ∀ (u : Nat), gK (Lib.decDigits u) 0 ≤ ((k + 1 : Nat) : Int) ↔ u < 10 ^ (k + 1) := by
  induction k with
  | zero =>
    intro u
    rw [dec_step]
    by_cases h : u < 10
    · rw [if_pos h, gK, dgt u h, if_pos (by omega), gK]; simp [h]
    · rw [if_neg h, gK_app, gK, dgt _ (by omega), if_pos (by omega), gK]
      have := dec_gK1 (u / 10)
      simp only [Nat.zero_add, Nat.pow_one]
      omega
  | succ k ih =>
    intro u
    have hp : 10 ^ (k + 1 + 1) = 10 ^ (k + 1) * 10 := Nat.pow_succ ..
    have h1 : 1 ≤ 10 ^ (k + 1) := Nat.one_le_pow _ _ (by omega)
    rw [dec_step]
    by_cases h : u < 10
    · rw [if_pos h, gK, dgt u h, if_pos (by omega), gK]
      omega
    · rw [if_neg h, gK_app, gK, dgt _ (by omega), if_pos (by omega), gK]
      have := ih (u / 10)
      omega
theorem dec_head (u : Nat) : ∃ b r, Lib.decDigits u = b :: r ∧ 48 ≤ b.toNat ∧ b.toNat ≤ 57 := by
  induction u using Nat.strongRecOn with
  | ind u ih =>
    rw [dec_step]
    by_cases h : u < 10
    · rw [if_pos h]; exact ⟨_, _, rfl, by rw [dgt u h]; omega, by rw [dgt u h]; omega⟩
    · rw [if_neg h]
      obtain ⟨b, r, e, h1, h2⟩ := ih (u / 10) (by omega)
      rw [e]
      exact ⟨_, _, rfl, h1, h2⟩
theorem atoi_itoa (n : Int) : Lib.atoi (Lib.itoa n) = some n := by
  unfold Lib.itoa
  by_cases h : n < 0
  · rw [if_pos h, Lib.atoi, if_pos (by decide), Lib.decNat]
    obtain ⟨b, r, e, _, _⟩ := dec_head n.natAbs
    rw [if_neg (by rw [e]; simp), dec_dF, Option.map_some]
    congr 1
    omega
  · rw [if_neg h]
    obtain ⟨b, r, e, h1, h2⟩ := dec_head n.toNat
    have hd := dec_dF n.toNat
    rw [e] at hd ⊢
    have b1 : (b == 45) = false := by
      refine Bool.eq_false_iff.2 fun c => ?_
      rw [beq_iff_eq] at c
      rw [c] at h1; exact absurd h1 (by decide)
    have b2 : (b == 43) = false := by
      refine Bool.eq_false_iff.2 fun c => ?_
      rw [beq_iff_eq] at c
      rw [c] at h1; exact absurd h1 (by decide)
    rw [Lib.atoi, b1, if_neg (by decide), b2, if_neg (by decide), Lib.decNat, if_neg (by simp), hd, Option.map_some]
    congr 1
    omega
theorem gx_itoa (n : Int) (h0 : -1000000000000000000 < n) (h1 : n < 1000000000000000000) : gN (Lib.itoa n) 0 = n.natAbs ∧ gK (Lib.itoa n) 0 = gK (Lib.decDigits n.natAbs) 0 := by
  unfold Lib.itoa
  by_cases h : n < 0
  · rw [if_pos h, gN, gK, if_neg (by decide), if_neg (by decide), dec_gN _ (by omega)]
    exact ⟨rfl, rfl⟩
  · rw [if_neg h, dec_gN _ (by omega), show n.natAbs = n.toNat by omega]
    exact ⟨rfl, rfl⟩
/-- What impl.ParseInt comes to. -/
def pin (s : ByteArray) : Int × Bool := if (s.size : Int) > 10 then (0, false) else
  match Lib.atoi s.toList with
  | none => (0, false)
  | some n => if Lib.itoa n = s.toList ∧ -999999999 ≤ n ∧ n ≤ 999999999 then (n, true) else (0, false)
theorem neg_itoa (s : ByteArray) (n : Int) (h : s.toList = Lib.itoa n) : isNeg s = decide (n < 0) := by
  unfold isNeg
  rw [h]
  unfold Lib.itoa
  by_cases c : n < 0
  · rw [if_pos c, decide_eq_true c]; rfl
  · rw [if_neg c, decide_eq_false c]
    obtain ⟨b, r, e, h1, h2⟩ := dec_head n.toNat
    rw [e]
    refine Bool.eq_false_iff.2 fun d => ?_
    have d : (b == 45) = true := d
    rw [beq_iff_eq] at d
    rw [d] at h1; exact absurd h1 (by decide)
theorem mkl (l : List UInt8) : (⟨l.toArray⟩ : ByteArray).toList = l := by rw [tl_eq]
theorem piS (s : ByteArray) (f : Nat) (hf : 100 < f) : spec_ParseInt.f f s = some (pin s) := by
  unfold spec_ParseInt.f
  have h := pl s (min s.size 11) 0 0 0 (by omega) (by omega) (by omega) (by omega) f (by omega)
  rw [show ((0 : Nat) : Int) = 0 from rfl, List.drop_zero] at h
  rw [h]
  congr 1
  unfold fin2 pin
  by_cases hs : (s.size : Int) > 10
  · rw [if_pos hs, if_pos hs]; split <;> rfl
  · rw [if_neg hs, if_neg hs]
    have hl : s.toList.length = s.size := by rw [tl_eq, Array.length_toList]; rfl
    rw [List.take_of_length_le (by omega), mkl (Lib.itoa (if isNeg s = true then wrap64 (-gN s.toList 0) else gN s.toList 0))]
    have hgb := gN_b s.toList 0 (by omega)
    by_cases hi : ∃ n, s.toList = Lib.itoa n ∧ -1000000000000000000 < n ∧ n < 1000000000000000000
    · obtain ⟨n, e, l0, l1⟩ := hi
      obtain ⟨g1, g2⟩ := gx_itoa n l0 l1
      have hv : (if isNeg s = true then wrap64 (-gN s.toList 0) else gN s.toList 0) = n := by
        rw [neg_itoa s n e, e, g1]
        by_cases c : n < 0
        · rw [if_pos (decide_eq_true c), w64 (by omega) (by omega)]; omega
        · rw [if_neg (by simpa using c)]; omega
      have hk := dec_gK 8 n.natAbs
      rw [hv, e, atoi_itoa, if_pos rfl, g2]
      have hp : (10 : Nat) ^ (8 + 1) = 1000000000 := by decide
      simp only [true_and]
      by_cases c : gK (Lib.decDigits n.natAbs) 0 > 9
      · rw [if_pos c, if_neg (by omega)]
      · rw [if_neg c, if_pos (by omega)]
    · have h2 : ¬ Lib.itoa (if isNeg s = true then wrap64 (-gN s.toList 0) else gN s.toList 0) = s.toList := by
        intro e
        revert e
        generalize (if isNeg s = true then wrap64 (-gN s.toList 0) else gN s.toList 0) = v
        intro e
        refine hi ⟨v, e.symm, ?_⟩
        have hlen : (Lib.itoa v).length ≤ 10 := by rw [e]; omega
        have hd : (Lib.decDigits v.natAbs).length ≤ 10 := by
          unfold Lib.itoa at hlen
          by_cases c : v < 0
          · rw [if_pos c, List.length_cons] at hlen; omega
          · rw [if_neg c] at hlen
            rw [show v.natAbs = v.toNat by omega]; exact hlen
        have hk := (gK_le (Lib.decDigits v.natAbs) 0).1
        have := (dec_gK 9 v.natAbs).1 (by omega)
        have hp : (10 : Nat) ^ (9 + 1) = 10000000000 := by decide
        omega
      rw [if_neg h2]
      have : (match Lib.atoi s.toList with
        | none => ((0 : Int), false)
        | some n => if Lib.itoa n = s.toList ∧ -999999999 ≤ n ∧ n ≤ 999999999 then (n, true) else (0, false)) = (0, false) := by
        cases ha : Lib.atoi s.toList with
        | none => rfl
        | some n =>
          simp only
          rw [if_neg]
          rintro ⟨a, b, c⟩
          exact hi ⟨n, a.symm, by omega, by omega⟩
      rw [this]
      split <;> rfl


theorem FnExactParseInt : FnExactParseIntPure := by
  intro s hs
  refine ⟨101, ?_⟩
  unfold laws_FnExactParseInt.f
  by_cases h : (s.size : Int) > 1048576
  · rw [if_pos h]
  · rw [if_neg h, piS s 101 (by omega), show impl_ParseInt.f s = some (pin s) from rfl]
    simp

end Go.Proofs.YtdpaopfghggiaaaDoor.Pure
