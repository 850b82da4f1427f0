/- The law FnEncodings answers true for every code: what is encoded is decoded again, and what is decoded was the encoding of it. -/
import Derived.Test.YtdpaopfghggiaaaDoorGFnEncodings
import Derived.Test.YtdpaopfghggiaaaDoorBase
import Derived.Lib.ItoaLen
import Derived.Lib.Atoi
namespace Go.Proofs.YtdpaopfghggiaaaDoor.Pure
open Go.RowKit Go.Proofs.YtdpaopfghggiaaaDoor.PFnEncodings Go.Proofs.YtdpaopfghggiaaaDoorW.PrintWords Go.Proofs.YtdpaopfghggiaaaDoorW.PrintLast Go.Proofs.YtdpaopfghggiaaaDoorW.PrintMore Go.Proofs.YtdpaopfghggiaaaDoor.Base
set_option linter.unusedVariables false
set_option linter.unusedSimpArgs false

/-- The number that m bytes from place j on tell, the lowest seven bits first. -/
def lo (s : ByteArray) : Nat → Nat → Int
  | _, 0 => 0
  | j, m + 1 => bt s j % 128 + 128 * lo s (j + 1) m
/-- Those bytes. -/
def bl (s : ByteArray) : Nat → Nat → List Int
  | _, 0 => []
  | j, m + 1 => bt s j :: bl s (j + 1) m
/-- The encoding of a number. -/
def enc : Nat → Int → List Int
  | 0, n => [n]
  | f + 1, n => if n ≥ 128 then (128 + n % 128) :: enc f (n / 128) else [n]
/-- A shortest encoding. -/
def canon : List Int → Prop
  | [] => False
  | [b] => 0 ≤ b ∧ b < 128
  | b :: c :: r => 128 ≤ b ∧ b ≤ 255 ∧ canon (c :: r) ∧ (r = [] → c ≠ 0)

theorem lo_snoc (s : ByteArray) (m : Nat) : ∀ j, lo s j (m + 1) = lo s j m + bt s ((j + m : Nat) : Int) % 128 * 128 ^ m := by
  induction m with
  | zero => intro j; simp [lo]
  | succ m ih =>
    intro j
    have h := ih (j + 1)
    rw [show lo s j (m + 1 + 1) = bt s j % 128 + 128 * lo s (j + 1) (m + 1) from rfl, h, show lo s j (m + 1) = bt s j % 128 + 128 * lo s (j + 1) m from rfl, show j + 1 + m = j + (m + 1) by omega, Int.pow_succ]
    rw [Int.mul_add, Int.add_assoc, Int.mul_comm 128 (_ * _), Int.mul_assoc]
theorem lo_range (s : ByteArray) (m : Nat) : ∀ j, 0 ≤ lo s j m ∧ lo s j m < 128 ^ m := by
  induction m with
  | zero => intro j; simp [lo]
  | succ m ih =>
    intro j
    have h := ih (j + 1)
    have hb := btr s j
    rw [Int.pow_succ]
    simp only [lo]
    omega
theorem bl_length (s : ByteArray) (m : Nat) : ∀ j, (bl s j m).length = m := by
  induction m with
  | zero => intro j; rfl
  | succ m ih => intro j; simp [bl, ih]
theorem bl_get (s : ByteArray) (m : Nat) : ∀ j t, t < m → (bl s j m).getD t 0 = bt s ((j + t : Nat) : Int) := by
  induction m with
  | zero => intro j t h; omega
  | succ m ih =>
    intro j t h
    cases t with
    | zero => simp [bl]
    | succ t =>
      have := ih (j + 1) t (by omega)
      rw [show j + 1 + t = j + (t + 1) by omega] at this
      simpa [bl] using this
theorem ex_bl (s : ByteArray) (m : Nat) (h : m ≤ s.size) : s.extract 0 m = strOfNums (bl s 0 m) := by
  refine ba_ext ?_ fun i hi => ?_
  · rw [ex_size s m h, sn_size, bl_length]
  · rw [ex_size s m h] at hi
    rw [ex_bt s m i h hi, sn_bt _ _ (by omega) (by rw [bl_length]; omega)]
    unfold rd
    rw [Int.toNat_natCast, bl_get s m 0 i hi, Nat.zero_add]
    have hb := btr s i
    rw [UInt8.toNat_ofNat']
    omega
theorem sn_inj : ∀ {xs ys : List Int}, (∀ x ∈ xs, 0 ≤ x ∧ x ≤ 255) → (∀ x ∈ ys, 0 ≤ x ∧ x ≤ 255) → strOfNums xs = strOfNums ys → xs = ys := by
  intro xs ys hx hy h
  have h1 : (strOfNums xs).data.toList = (strOfNums ys).data.toList := by rw [h]
  rw [sn_toList, sn_toList] at h1
  clear h
  induction xs generalizing ys with
  | nil => cases ys with
    | nil => rfl
    | cons y ys => simp at h1
  | cons x xs ih => cases ys with
    | nil => simp at h1
    | cons y ys =>
      simp only [List.map_cons, List.cons.injEq] at h1
      have hx0 := hx x (by simp)
      have hy0 := hy y (by simp)
      have e : x = y := by
        have h2 := congrArg UInt8.toNat h1.1
        rw [UInt8.toNat_ofNat', UInt8.toNat_ofNat'] at h2
        omega
      rw [e, ih (fun z hz => hx z (by simp [hz])) (fun z hz => hy z (by simp [hz])) h1.2]
theorem bl_range (s : ByteArray) (m : Nat) : ∀ j, ∀ x ∈ bl s j m, 0 ≤ x ∧ x ≤ 255 := by
  induction m with
  | zero => intro j x hx; simp [bl] at hx
  | succ m ih =>
    intro j x hx
    simp only [bl, List.mem_cons] at hx
    rcases hx with rfl | hx
    · exact btr s j
    · exact ih (j + 1) x hx
theorem enc_range (f : Nat) : ∀ n : Int, 0 ≤ n → n < 128 ^ (f + 1) → ∀ x ∈ enc f n, 0 ≤ x ∧ x ≤ 255 := by
  induction f with
  | zero =>
    intro n h0 h1 x hx
    simp only [enc, List.mem_singleton] at hx
    subst hx
    simp at h1
    omega
  | succ f ih =>
    intro n h0 h1 x hx
    simp only [enc] at hx
    by_cases h : n ≥ 128
    · rw [if_pos h, List.mem_cons] at hx
      rcases hx with rfl | hx
      · omega
      · rw [Int.pow_succ] at h1
        exact ih (n / 128) (by omega) (Int.ediv_lt_of_lt_mul (by decide) h1) x hx
    · rw [if_neg h, List.mem_singleton] at hx
      subst hx
      omega
theorem enc_ne (f : Nat) (n : Int) : ∃ b r, enc f n = b :: r := by
  cases f with
  | zero => exact ⟨_, _, rfl⟩
  | succ f =>
    simp only [enc]
    split
    · exact ⟨_, _, rfl⟩
    · exact ⟨_, _, rfl⟩
theorem enc_canon (f : Nat) : ∀ n : Int, 0 ≤ n → n < 128 ^ (f + 1) → canon (enc f n) ∧ (n ≠ 0 → enc f n ≠ [0]) := by
  induction f with
  | zero =>
    intro n h0 h1
    refine ⟨⟨h0, by simpa using h1⟩, fun h => by simpa [enc] using h⟩
  | succ f ih =>
    intro n h0 h1
    simp only [enc]
    by_cases h : n ≥ 128
    · rw [Int.pow_succ] at h1
      obtain ⟨ih1, ih2⟩ := ih (n / 128) (by omega) (Int.ediv_lt_of_lt_mul (by decide) h1)
      rw [if_pos h]
      obtain ⟨b, r, e⟩ := enc_ne f (n / 128)
      rw [e] at ih1 ih2 ⊢
      refine ⟨⟨by omega, by omega, ih1, fun hr hb => ?_⟩, fun _ => by simp⟩
      subst hr hb
      exact ih2 (by omega) rfl
    · rw [if_neg h]
      exact ⟨⟨h0, by omega⟩, fun h => by simpa using h⟩
theorem canon_pos (s : ByteArray) (m : Nat) : ∀ j, canon (bl s j m) → bl s j m ≠ [0] → 1 ≤ lo s j m := by
  induction m with
  | zero => intro j h; exact h.elim
  | succ m ih =>
    intro j h hne
    cases m with
    | zero =>
      obtain ⟨h0, h1⟩ := h
      have : bt s j ≠ 0 := fun e => hne (by simp [bl, e])
      simp only [lo]
      omega
    | succ m =>
      obtain ⟨h1, h2, h3, h4⟩ := h
      have := ih (j + 1) h3 (by
        intro e
        simp only [bl, List.cons.injEq] at e
        exact h4 e.2 e.1)
      have hb := btr s j
      simp only [lo] at this ⊢
      omega
theorem canon_enc (s : ByteArray) (m : Nat) : ∀ j f, m ≤ f + 1 → canon (bl s j m) → enc f (lo s j m) = bl s j m := by
  induction m with
  | zero => intro j f _ h; exact h.elim
  | succ m ih =>
    intro j f hf h
    have hb := btr s j
    cases m with
    | zero =>
      obtain ⟨h0, h1⟩ := h
      have e : lo s j (0 + 1) = bt s j := by
        simp only [lo]
        omega
      rw [e]
      cases f with
      | zero => rfl
      | succ f =>
        simp only [enc]
        rw [if_neg (by omega)]
        rfl
    | succ m =>
      obtain ⟨h1, h2, h3, h4⟩ := h
      cases f with
      | zero => omega
      | succ f =>
        have hp := canon_pos s (m + 1) (j + 1) h3 (by
          intro e
          simp only [bl, List.cons.injEq] at e
          exact h4 e.2 e.1)
        have := ih (j + 1) f (by omega) h3
        show enc (f + 1) (bt s j % 128 + 128 * lo s (j + 1) (m + 1)) = bt s j :: bl s (j + 1) (m + 1)
        generalize lo s (j + 1) (m + 1) = L at this hp
        simp only [enc]
        rw [if_pos (by omega), show (bt s j % 128 + 128 * L) / 128 = L by omega, this, show 128 + (bt s j % 128 + 128 * L) % 128 = bt s j by omega]
/-- What a shortest encoding is, by its bytes. -/
theorem canon_iff (s : ByteArray) (m : Nat) : ∀ j, canon (bl s j (m + 1)) ↔ (∀ t : Nat, t < m → 128 ≤ bt s ((j + t : Nat) : Int)) ∧ bt s ((j + m : Nat) : Int) < 128 ∧ (m = 0 ∨ bt s ((j + m : Nat) : Int) ≠ 0) := by
  induction m with
  | zero =>
    intro j
    have hb := btr s j
    simp [bl, canon]
    omega
  | succ m ih =>
    intro j
    have hb := btr s j
    have e : canon (bl s j (m + 1 + 1)) ↔ 128 ≤ bt s j ∧ bt s j ≤ 255 ∧ canon (bl s (j + 1) (m + 1)) ∧ (bl s (j + 1 + 1) m = [] → bt s ((j + 1 : Nat) : Int) ≠ 0) := Iff.rfl
    rw [e, ih (j + 1), show j + 1 + m = j + (m + 1) by omega]
    constructor
    · rintro ⟨h1, _, ⟨h3, h4, h5⟩, h6⟩
      refine ⟨fun t ht => ?_, h4, .inr ?_⟩
      · cases t with
        | zero => exact h1
        | succ t =>
          have := h3 t (by omega)
          rwa [show j + 1 + t = j + (t + 1) by omega] at this
      · rcases h5 with rfl | h5
        · exact h6 rfl
        · exact h5
    · rintro ⟨h1, h2, h3⟩
      refine ⟨h1 0 (by omega), hb.2, ⟨fun t ht => ?_, h2, ?_⟩, fun hm => ?_⟩
      · have := h1 (t + 1) (by omega)
        rwa [show j + (t + 1) = j + 1 + t by omega] at this
      · rcases h3 with h3 | h3
        · omega
        · exact .inr h3
      · have hm0 : m = 0 := by
          have := congrArg List.length hm
          rw [bl_length] at this
          exact this
        subst hm0
        rcases h3 with h3 | h3
        · omega
        · exact h3

theorem encl (f : Nat) : ∀ (n : Int) (acc : List Int), 0 ≤ n → n < 128 ^ (f + 1) → n ≤ 562949953421311 → acc.length + f < 140737488355327 →
    ∀ k, f < k → spec_EncodeVarint.l0 k n acc = some (strOfNums (acc ++ enc f n)) := by
  induction f with
  | zero =>
    intro n acc h0 h1 _ ha k hk
    obtain ⟨k, rfl⟩ : ∃ m, k = m + 1 := ⟨k - 1, by omega⟩
    have h2 : ¬ n ≥ 128 := by simpa using h1
    simp only [spec_EncodeVarint.l0, enc]
    rw [if_neg h2, if_pos (by omega), show n % 256 = n by omega]
  | succ f ih =>
    intro n acc h0 h1 hx ha k hk
    obtain ⟨k, rfl⟩ : ∃ m, k = m + 1 := ⟨k - 1, by omega⟩
    simp only [spec_EncodeVarint.l0, enc]
    by_cases h2 : n ≥ 128
    · have h3 : n / 128 < 128 ^ (f + 1) := by
        rw [Int.pow_succ] at h1
        exact Int.ediv_lt_of_lt_mul (by decide) h1
      rw [if_pos h2, if_pos (by omega), if_pos h2, td h0, tm h0, w64 (n := n / 128) (by omega) (by omega), w64 (n := 128 + n % 128) (by omega) (by omega), show (128 + n % 128) % 256 = 128 + n % 128 by omega,
        ih (n / 128) _ (by omega) h3 (by omega) (by simp; omega) k (by omega)]
      simp
    · rw [if_neg h2, if_pos (by omega), if_neg h2, show n % 256 = n by omega]
theorem encf (n : Int) (h0 : 0 ≤ n) (h1 : n < 128 ^ 7) (k : Nat) (hk : 6 < k) : spec_EncodeVarint.f k n = some (strOfNums (enc 6 n)) := by
  have e : (128 : Int) ^ 7 = 562949953421312 := by decide
  unfold spec_EncodeVarint.f spec_l1In.f
  rw [if_pos (by omega), decide_eq_true (show n ≤ 562949953421311 by omega)]
  simp only [Option.bind_some, if_true]
  rw [encl 6 n [] h0 h1 (by omega) (by simp) k hk, List.nil_append]

theorem shl7 (b : Int) (h0 : 0 ≤ b) (h1 : b < 128) (i : Nat) (hi : i ≤ 6) : shl .i64 b (7 * (i : Int)) = b * 128 ^ i := by
  have hc : i = 0 ∨ i = 1 ∨ i = 2 ∨ i = 3 ∨ i = 4 ∨ i = 5 ∨ i = 6 := by omega
  have b64 : IntKind.bits .i64 = 64 := rfl
  unfold shl
  rw [IntKind.wrap_i64]
  rcases hc with rfl | rfl | rfl | rfl | rfl | rfl | rfl <;> simp [b64] <;> omega

theorem orlo (s : ByteArray) (i : Nat) (hi : i ≤ 6) (b : Int) (h0 : 0 ≤ b) (h1 : b < 128) : Go.bits .or .i64 (lo s 0 i) (b * 128 ^ i) = lo s 0 i + b * 128 ^ i := by
  have hl := lo_range s i 0
  have hp : (2 : Int) ^ (7 * i) = 128 ^ i := by
    rw [Int.pow_mul]
    rfl
  have hq : (128 : Int) ^ i ≤ 128 ^ 6 := by
    have : (128 : Nat) ^ i ≤ 128 ^ 6 := Nat.pow_le_pow_right (by decide) hi
    exact_mod_cast this
  have h6 : (128 : Int) ^ 6 = 4398046511104 := by decide
  have h62 : (2 : Int) ^ 62 = 4611686018427387904 := by decide
  have hpos : (0 : Int) < 128 ^ i := Int.pow_pos (by decide)
  have hb : b * 128 ^ i ≤ 127 * 128 ^ i := Int.mul_le_mul_of_nonneg_right (by omega) (by omega)
  have hb0 : 0 ≤ b * 128 ^ i := Int.mul_nonneg h0 (by omega)
  rw [or_comm64 _ _ hl.1 hb0 (by omega) (by omega), or_join (7 * i) (by omega) _ _ hb0 (by rw [hp]; exact Int.mul_emod_left _ _) (by omega) hl.1 (by rw [hp]; exact hl.2), Int.add_comm]


/-- The lowest w bytes of x, the highest first. -/
def be : Nat → Int → List Int
  | 0, _ => []
  | w + 1, x => be w (x / 256) ++ [x % 256]
/-- What is left of x behind w bytes. -/
def left : Nat → Int → Int
  | 0, x => x
  | w + 1, x => left w (x / 256)

theorem drop_set (xs : List Int) (i : Nat) (v : Int) (h : i < xs.length) : (xs.set i v).drop i = v :: xs.drop (i + 1) := by
  rw [List.drop_eq_getElem_cons (by simpa using h), List.drop_set_of_lt (by omega)]
  simp

theorem impll (d : Nat) : ∀ (k : Nat) (x : Int) (xs : List Int), d < k → d ≤ xs.length → xs.length ≤ 7 →
    impl_EncodeFixed.l0 k x xs ((d : Int) - 1) = some (strOfNums (be d x ++ xs.drop d)) := by
  induction d with
  | zero =>
    intro k x xs hk _ _
    obtain ⟨k, rfl⟩ : ∃ m, k = m + 1 := ⟨k - 1, by omega⟩
    simp only [impl_EncodeFixed.l0, be, List.nil_append, List.drop_zero]
    rw [if_neg (by omega)]
  | succ d ih =>
    intro k x xs hk hd hl
    obtain ⟨k, rfl⟩ : ∃ m, k = m + 1 := ⟨k - 1, by omega⟩
    have e1 : ((d + 1 : Nat) : Int) - 1 = d := by omega
    rw [e1]
    simp only [impl_EncodeFixed.l0]
    rw [if_pos (by omega), if_pos (by omega), if_pos (by omega), show wrap64 ((d : Int) - 1) = (d : Int) - 1 from w64 (by omega) (by omega)]
    rw [ih k (x / 256) _ (by omega) (by simp; omega) (by simpa using hl)]
    rw [show ((d : Int)).toNat = d from by omega, drop_set _ _ _ (by omega)]
    simp [be]

theorem left_nonneg (d : Nat) : ∀ x : Int, 0 ≤ x → 0 ≤ left d x := by
  induction d with
  | zero => exact fun x h => h
  | succ d ih => exact fun x h => ih (x / 256) (by omega)

theorem shr_left (m : Nat) (hm : m ≤ 7) (n : Int) : shr .i64 n (8 * (m : Int)) = left m n := by
  have hc : m = 0 ∨ m = 1 ∨ m = 2 ∨ m = 3 ∨ m = 4 ∨ m = 5 ∨ m = 6 ∨ m = 7 := by omega
  have b64 : IntKind.bits .i64 = 64 := rfl
  unfold shr
  rcases hc with rfl | rfl | rfl | rfl | rfl | rfl | rfl | rfl <;> simp [left, b64] <;> omega

theorem join (n b : Int) (h0 : 0 ≤ n) (h1 : n * 256 < 2 ^ 62) (hb : 0 ≤ b) (hb1 : b ≤ 255) : bits .or .i64 (n * 256) b = n * 256 + b :=
  or_join 8 (by decide) _ _ (by omega) (by have : (2 : Int) ^ 8 = 256 := by decide
                                           rw [this]; omega) h1 hb (by have : (2 : Int) ^ 8 = 256 := by decide
                                                                       rw [this]; omega)


/-! ### round trips -/
theorem bt_app (a b : ByteArray) (i : Nat) (h : i < a.size) : bt (a ++ b) i = bt a i := by
  unfold bt
  rw [Int.toNat_natCast, dif_pos (by rw [ByteArray.size_append]; omega), dif_pos h]
  have h' : i < a.data.size := h
  have h2 : i < (a ++ b).data.size := by rw [ByteArray.data_append, Array.size_append]; omega
  have e : (a ++ b).data[i] = a.data[i] := by simp only [ByteArray.data_append, Array.getElem_append_left h']
  exact congrArg (fun c : UInt8 => ((c.toNat : Nat) : Int)) e
theorem enc_len (f : Nat) : ∀ n : Int, 1 ≤ (enc f n).length ∧ (enc f n).length ≤ f + 1 := by
  induction f with
  | zero => intro n; simp [enc]
  | succ f ih =>
    intro n
    have := ih (n / 128)
    simp only [enc]
    split
    · simp only [List.length_cons]; omega
    · simp
def valL : List Int → Int
  | [] => 0
  | b :: r => b % 128 + 128 * valL r
theorem lo_val (s : ByteArray) (m : Nat) : ∀ j, lo s j m = valL (bl s j m) := by
  induction m with
  | zero => intro j; rfl
  | succ m ih => intro j; simp only [lo, bl, valL, ih (j + 1)]
theorem val_enc (f : Nat) : ∀ n : Int, 0 ≤ n → n < 128 ^ (f + 1) → valL (enc f n) = n := by
  induction f with
  | zero =>
    intro n h0 h1
    simp only [enc, valL]
    simp at h1
    omega
  | succ f ih =>
    intro n h0 h1
    simp only [enc]
    by_cases h : n ≥ 128
    · rw [Int.pow_succ] at h1
      have := ih (n / 128) (by omega) (Int.ediv_lt_of_lt_mul (by decide) h1)
      rw [if_pos h, valL, this]
      omega
    · rw [if_neg h, valL, valL]
      omega
theorem sn_get (xs : List Int) (hx : ∀ x ∈ xs, 0 ≤ x ∧ x ≤ 255) (i : Nat) (hi : i < xs.length) : bt (strOfNums xs) i = xs.getD i 0 := by
  have hm := hx _ (getD_mem xs 0 i hi)
  rw [sn_bt xs i (by omega) (by omega)]
  unfold rd
  rw [Int.toNat_natCast, UInt8.toNat_ofNat']
  omega
theorem bl_of (s : ByteArray) (xs : List Int) (m : Nat) : ∀ (j : Nat), j + m = xs.length → (∀ i, i < xs.length → bt s (i : Nat) = xs.getD i 0) → bl s j m = xs.drop j := by
  induction m with
  | zero => intro j h _; rw [bl, List.drop_eq_nil_of_le (by omega)]
  | succ m ih =>
    intro j h hb
    have hj : j < xs.length := by omega
    rw [bl, ih (j + 1) (by omega) hb, hb j hj, List.drop_eq_getElem_cons hj, getD_lt xs 0 j hj]
/-- One byte read by the program. -/
theorem stepI (s : ByteArray) (hs : s.size ≤ 1048576) (i : Nat) (h7 : i < 7) (hi : i < s.size) (k : Nat) : impl_DecodeVarint.l0 (k + 2) s (lo s 0 i) i = if bt s i < 128 then (if (i : Int) > 0 then (if bt s i = 0 then some (0, 0) else some (lo s 0 (i + 1), ((i + 1 : Nat) : Int))) else some (lo s 0 (i + 1), ((i + 1 : Nat) : Int))) else impl_DecodeVarint.l0 k s (lo s 0 (i + 1)) ((i + 1 : Nat) : Int) := by
  have hb := btr s i
  have e1 : wrap64 (7 * (i : Int)) = 7 * i := w64 (by omega) (by omega)
  have e2 : wrap64 ((i : Int) + 1) = ((i + 1 : Nat) : Int) := by rw [w64 (by omega) (by omega)]; omega
  have e3 : wrap64 (bt s i % 128) = bt s i % 128 := w64 (by omega) (by omega)
  have e4 : Go.bits .or .i64 (lo s 0 i) (shl .i64 (bt s i % 128) (7 * (i : Int))) = lo s 0 (i + 1) := by
    rw [shl7 _ (by omega) (by omega) i (by omega), orlo s i (by omega) _ (by omega) (by omega), lo_snoc, Nat.zero_add]
  rw [impl_DecodeVarint.l0, if_pos (by omega), decide_eq_true (by omega), impl_DecodeVarint.j1, if_pos rfl, if_pos (by omega), if_pos (by omega), e1, if_pos (by omega), tm hb.1, e3, e4, e2]
theorem decSl (s : ByteArray) (hs : s.size ≤ 1048576) (d : Nat) : ∀ (i : Nat), i + d = 7 → (∀ t : Nat, t < i → 128 ≤ bt s t) → ∀ k, 2 * d + 3 < k →
    ∃ z j, impl_DecodeVarint.l0 k s (lo s 0 i) i = some (z, j) ∧ ((z = 0 ∧ j = 0) ∨ ∃ m : Nat, 1 ≤ m ∧ m ≤ 7 ∧ m ≤ s.size ∧ canon (bl s 0 m) ∧ z = lo s 0 m ∧ j = (m : Int)) := by
  induction d with
  | zero =>
    intro i hd _ k hk
    obtain ⟨k, rfl⟩ : ∃ z, k = z + 2 := ⟨k - 2, by omega⟩
    refine ⟨0, 0, ?_, .inl ⟨rfl, rfl⟩⟩
    rw [impl_DecodeVarint.l0, decide_eq_false (by omega)]
    split <;> rw [impl_DecodeVarint.j1, if_neg (by decide)]
  | succ d ih =>
    intro i hd hall k hk
    obtain ⟨k, rfl⟩ : ∃ z, k = z + 2 := ⟨k - 2, by omega⟩
    by_cases hi : i < s.size
    · have hcan := canon_iff s i 0
      rw [Nat.zero_add] at hcan
      rw [stepI s hs i (by omega) hi]
      by_cases h128 : bt s i < 128
      · rw [if_pos h128]
        by_cases h0 : (i : Int) > 0
        · rw [if_pos h0]
          by_cases hz : bt s i = 0
          · rw [if_pos hz]
            exact ⟨0, 0, rfl, .inl ⟨rfl, rfl⟩⟩
          · rw [if_neg hz]
            exact ⟨_, _, rfl, .inr ⟨i + 1, by omega, by omega, by omega, hcan.2 ⟨fun t ht => by rw [Nat.zero_add]; exact hall t ht, h128, .inr hz⟩, rfl, rfl⟩⟩
        · rw [if_neg h0]
          exact ⟨_, _, rfl, .inr ⟨i + 1, by omega, by omega, by omega, hcan.2 ⟨fun t ht => by rw [Nat.zero_add]; exact hall t ht, h128, .inl (by omega)⟩, rfl, rfl⟩⟩
      · rw [if_neg h128]
        exact ih (i + 1) (by omega) (fun t ht => by
          by_cases e : t = i
          · subst e; omega
          · exact hall t (by omega)) k (by omega)
    · refine ⟨0, 0, ?_, .inl ⟨rfl, rfl⟩⟩
      rw [impl_DecodeVarint.l0, if_neg (by omega), impl_DecodeVarint.j1, if_neg (by decide)]
theorem decS (s : ByteArray) (hs : s.size ≤ 1048576) (k : Nat) (hk : 20 < k) :
    ∃ z j, impl_DecodeVarint.f k s = some (z, j) ∧ ((z = 0 ∧ j = 0) ∨ ∃ m : Nat, 1 ≤ m ∧ m ≤ 7 ∧ m ≤ s.size ∧ canon (bl s 0 m) ∧ z = lo s 0 m ∧ j = (m : Int)) := by
  unfold impl_DecodeVarint.f
  exact decSl s hs 7 0 (by omega) (fun t ht => by omega) k (by omega)
theorem decCl (s : ByteArray) (hs : s.size ≤ 1048576) (m : Nat) (h7 : m < 7) (hm : m < s.size) (hc : canon (bl s 0 (m + 1))) (d : Nat) : ∀ (i : Nat), i + d = m → ∀ k, 2 * d + 2 < k → impl_DecodeVarint.l0 k s (lo s 0 i) i = some (lo s 0 (m + 1), ((m + 1 : Nat) : Int)) := by
  have hcan := (canon_iff s m 0).1 hc
  rw [Nat.zero_add] at hcan
  obtain ⟨c1, c2, c3⟩ := hcan
  induction d with
  | zero =>
    intro i hd k hk
    obtain ⟨k, rfl⟩ : ∃ z, k = z + 2 := ⟨k - 2, by omega⟩
    have : i = m := by omega
    subst this
    rw [stepI s hs i h7 hm, if_pos c2]
    by_cases h0 : (i : Int) > 0
    · rw [if_pos h0, if_neg (by rcases c3 with c3 | c3 <;> omega)]
    · rw [if_neg h0]
  | succ d ih =>
    intro i hd k hk
    obtain ⟨k, rfl⟩ : ∃ z, k = z + 2 := ⟨k - 2, by omega⟩
    have := c1 i (by omega)
    rw [Nat.zero_add] at this
    rw [stepI s hs i (by omega) (by omega), if_neg (by omega)]
    exact ih (i + 1) (by omega) k (by omega)
theorem p7 : (128 : Int) ^ (6 + 1) = 562949953421312 := by decide
theorem enclI (f : Nat) : ∀ (n : Int) (acc : List Int), 0 ≤ n → n < 128 ^ (f + 1) → n ≤ 562949953421311 → acc.length + f < 140737488355327 →
    ∀ k, f < k → impl_EncodeVarint.l0 k n acc = some (strOfNums (acc ++ enc f n)) := by
  induction f with
  | zero =>
    intro n acc h0 h1 _ ha k hk
    obtain ⟨k, rfl⟩ : ∃ m, k = m + 1 := ⟨k - 1, by omega⟩
    have h2 : ¬ n ≥ 128 := by simpa using h1
    simp only [impl_EncodeVarint.l0, enc]
    rw [if_neg h2, if_pos (by omega), show n % 256 = n by omega]
  | succ f ih =>
    intro n acc h0 h1 hx ha k hk
    obtain ⟨k, rfl⟩ : ∃ m, k = m + 1 := ⟨k - 1, by omega⟩
    simp only [impl_EncodeVarint.l0, enc]
    by_cases h2 : n ≥ 128
    · have h3 : n / 128 < 128 ^ (f + 1) := by
        rw [Int.pow_succ] at h1
        exact Int.ediv_lt_of_lt_mul (by decide) h1
      rw [if_pos h2, if_pos (by omega), if_pos h2, td h0, tm h0, w64 (n := n / 128) (by omega) (by omega), Int.add_comm (n % 128) 128, w64 (n := 128 + n % 128) (by omega) (by omega), show (128 + n % 128) % 256 = 128 + n % 128 by omega,
        ih (n / 128) _ (by omega) h3 (by omega) (by simp; omega) k (by omega)]
      simp
    · rw [if_neg h2, if_pos (by omega), if_neg h2, show n % 256 = n by omega]
theorem encI (n : Int) (k : Nat) (hk : 6 < k) : impl_EncodeVarint.f k n = some (if 0 ≤ n ∧ n ≤ 562949953421311 then strOfNums (enc 6 n) else (⟨#[]⟩ : ByteArray)) := by
  unfold impl_EncodeVarint.f impl_within.f
  by_cases h0 : 0 ≤ n
  · rw [if_pos h0, Option.bind_some]
    by_cases h1 : n ≤ 562949953421311
    · rw [if_pos (decide_eq_true h1), if_pos ⟨h0, h1⟩, enclI 6 n [] h0 (by rw [p7]; omega) h1 (by simp) k hk, List.nil_append]
    · rw [if_neg (by rw [decide_eq_true_iff]; exact h1), if_neg (fun h => h1 h.2)]
  · rw [if_neg h0, Option.bind_some, if_neg (by decide), if_neg (fun h => h0 h.1)]
theorem encSx (n : Int) (k : Nat) (hk : 6 < k) : ∃ t, spec_EncodeVarint.f k n = some t ∧ t.size ≤ 7 := by
  by_cases h : 0 ≤ n ∧ n ≤ 562949953421311
  · exact ⟨_, encf n h.1 (by omega) k hk, by rw [sn_size]; exact (enc_len 6 n).2⟩
  · refine ⟨(⟨#[]⟩ : ByteArray), ?_, Nat.zero_le _⟩
    unfold spec_EncodeVarint.f spec_l1In.f
    by_cases h0 : n ≥ 0
    · rw [if_pos h0, Option.bind_some, if_neg (by rw [decide_eq_true_iff]; omega)]
    · rw [if_neg h0, Option.bind_some, if_neg (by decide)]
theorem e7 : (128 : Int) ^ 7 = 562949953421312 := by decide
theorem decT (n : Int) (h0 : 0 ≤ n) (h1 : n ≤ 562949953421311) (tl : ByteArray) (ht : tl.size ≤ 1000) (k : Nat) (hk : 20 < k) : impl_DecodeVarint.f k (strOfNums (enc 6 n) ++ tl) = some (n, ((enc 6 n).length : Int)) := by
  have hl := enc_len 6 n
  have hr := enc_range 6 n h0 (by rw [p7]; omega)
  have hc := (enc_canon 6 n h0 (by rw [p7]; omega)).1
  have hz : (strOfNums (enc 6 n)).size = (enc 6 n).length := sn_size _
  have hbt : ∀ i, i < (enc 6 n).length → bt (strOfNums (enc 6 n) ++ tl) (i : Nat) = (enc 6 n).getD i 0 := by
    intro i hi
    rw [bt_app _ _ i (by omega), sn_get _ hr i hi]
  have hb := bl_of (strOfNums (enc 6 n) ++ tl) (enc 6 n) (enc 6 n).length 0 (by omega) hbt
  rw [List.drop_zero] at hb
  obtain ⟨m, hm⟩ : ∃ m, (enc 6 n).length = m + 1 := ⟨(enc 6 n).length - 1, by omega⟩
  unfold impl_DecodeVarint.f
  have hv := lo_val (strOfNums (enc 6 n) ++ tl) (enc 6 n).length 0
  rw [hb, val_enc 6 n h0 (by rw [p7]; omega)] at hv
  rw [hm] at hb hv ⊢
  have := decCl (strOfNums (enc 6 n) ++ tl) (by rw [ByteArray.size_append]; omega) m (by omega) (by rw [ByteArray.size_append]; omega) (by rw [hb]; exact hc) m 0 (by omega) k (by omega)
  rw [hv] at this
  exact this
/-- Behind a text that is read, its number's text is the part that was read. -/
theorem decE (s : ByteArray) (m : Nat) (h1 : 1 ≤ m) (h7 : m ≤ 7) (hm : m ≤ s.size) (hc : canon (bl s 0 m)) (k : Nat) (hk : 6 < k) : impl_EncodeVarint.f k (lo s 0 m) = some (s.extract 0 m) := by
  have hl := lo_range s m 0
  have hp : (128 : Int) ^ m ≤ 128 ^ 7 := by
    have : (128 : Nat) ^ m ≤ 128 ^ 7 := Nat.pow_le_pow_right (by decide) h7
    exact_mod_cast this
  rw [e7] at hp
  rw [encI _ k hk, if_pos ⟨hl.1, by omega⟩, canon_enc s m 0 6 (by omega) hc, ex_bl s m hm]
/-! ### seven bytes -/
def hv (s : ByteArray) : Nat → Int
  | 0 => 0
  | i + 1 => hv s i * 256 + bt s i
theorem hv_range (s : ByteArray) : ∀ i, 0 ≤ hv s i ∧ hv s i < 256 ^ i
  | 0 => by simp [hv]
  | i + 1 => by
    have h := hv_range s i
    have hb := btr s i
    rw [hv, Int.pow_succ]
    omega
theorem hvl (s : ByteArray) (hs : 7 ≤ s.size) (d : Nat) : ∀ (i : Nat), i + d = 7 → ∀ k, d < k → impl_DecodeFixed.l0 k s (hv s i) 7 i = some (hv s 7, true) := by
  induction d with
  | zero =>
    intro i hd k hk
    obtain ⟨k, rfl, hk⟩ := fuel hk
    rw [impl_DecodeFixed.l0, if_neg (by omega), show i = 7 by omega]
  | succ d ih =>
    intro i hd k hk
    obtain ⟨k, rfl, hk⟩ := fuel hk
    have hb := btr s i
    have hr := hv_range s i
    have hp : (256 : Int) ^ i ≤ 281474976710656 := by
      have hc : i = 0 ∨ i = 1 ∨ i = 2 ∨ i = 3 ∨ i = 4 ∨ i = 5 ∨ i = 6 := by omega
      rcases hc with rfl | rfl | rfl | rfl | rfl | rfl | rfl <;> decide
    have h62 : (2 : Int) ^ 62 = 4611686018427387904 := by decide
    rw [impl_DecodeFixed.l0, if_pos (by omega), if_pos (by omega), if_pos (by omega), w64 (n := hv s i * 256) (by omega) (by omega), w64 (n := bt s i) (by omega) (by omega), join _ _ hr.1 (by omega) hb.1 hb.2, show wrap64 ((i : Int) + 1) = ((i + 1 : Nat) : Int) by rw [w64 (by omega) (by omega)]; omega]
    exact ih (i + 1) (by omega) k (by omega)
theorem decF (s : ByteArray) (k : Nat) (hk : 20 < k) : impl_DecodeFixed.f k s 7 = some (if 7 ≤ s.size then (hv s 7, true) else (0, false)) := by
  obtain ⟨k, rfl⟩ : ∃ z, k = z + 1 := ⟨k - 1, by omega⟩
  unfold impl_DecodeFixed.f impl_within.f
  rw [if_pos (by decide), Option.bind_some, if_pos (by decide), impl_DecodeFixed.j0]
  by_cases h : 7 ≤ s.size
  · rw [if_neg (by rw [decide_eq_true_iff]; omega), if_pos h]
    exact hvl s h 7 0 (by omega) k (by omega)
  · rw [if_pos (by rw [decide_eq_true_iff]; omega), if_neg h]
theorem left7 (n : Int) (h0 : 0 ≤ n) : left 7 n = 0 ↔ n < 72057594037927936 := by
  simp only [left]
  omega
theorem encF (n : Int) (h1 : n ≤ 9223372036854775807) (k : Nat) (hk : 20 < k) : impl_EncodeFixed.f k n 7 = some (if 0 ≤ n ∧ n < 72057594037927936 then strOfNums (be 7 n) else (⟨#[]⟩ : ByteArray)) := by
  obtain ⟨k, rfl⟩ : ∃ z, k = z + 1 := ⟨k - 1, by omega⟩
  unfold impl_EncodeFixed.f impl_within.f
  rw [if_pos (by decide), Option.bind_some, if_pos (by decide)]
  by_cases h0 : n < 0
  · rw [if_pos h0, impl_EncodeFixed.j0, if_pos rfl, if_neg (by omega)]
  · have e3 := shr_left 7 (by omega) n
    have e3' : shr .i64 n 56 = left 7 n := e3
    have hl := left7 n (by omega)
    have hi := impll 7 k n (List.replicate 7 0) (by omega) (by simp) (by simp)
    rw [List.drop_of_length_le (by simp), List.append_nil] at hi
    rw [if_neg h0, show wrap64 (8 * 7) = 56 by rw [w64 (by omega) (by omega)]; rfl, if_pos (by decide), e3', impl_EncodeFixed.j0]
    by_cases hz : left 7 n = 0
    · rw [if_neg (show ¬ (left 7 n != 0) = true by simpa using hz), if_pos (by decide), if_pos (by decide), show wrap64 (7 - 1) = ((7 : Nat) : Int) - 1 by rw [w64 (by omega) (by omega)]; rfl, show (7 : Int).toNat = 7 from rfl, hi, if_pos ⟨by omega, hl.1 hz⟩]
    · rw [if_pos (show (left 7 n != 0) = true by simpa using hz), if_neg (fun h => hz (hl.2 h.2))]
theorem be7 (n : Int) : be 7 n = [n / 256 / 256 / 256 / 256 / 256 / 256 % 256, n / 256 / 256 / 256 / 256 / 256 % 256, n / 256 / 256 / 256 / 256 % 256, n / 256 / 256 / 256 % 256, n / 256 / 256 % 256, n / 256 % 256, n % 256] := by simp [be]
theorem decFT (n : Int) (h0 : 0 ≤ n) (h1 : n < 72057594037927936) (tl : ByteArray) (k : Nat) (hk : 20 < k) : impl_DecodeFixed.f k (strOfNums (be 7 n) ++ tl) 7 = some (n, true) := by
  have hlen : (be 7 n).length = 7 := by rw [be7]; rfl
  have hr : ∀ x ∈ be 7 n, 0 ≤ x ∧ x ≤ 255 := by
    intro x hx
    rw [be7] at hx
    simp only [List.mem_cons, List.not_mem_nil, or_false] at hx
    omega
  have hz : (strOfNums (be 7 n)).size = 7 := by rw [sn_size, hlen]
  have hb : ∀ i, i < 7 → bt (strOfNums (be 7 n) ++ tl) (i : Nat) = (be 7 n).getD i 0 := by
    intro i hi
    rw [bt_app _ _ i (by omega), sn_get _ hr i (by omega)]
  have b0 := hb 0 (by omega)
  have b1 := hb 1 (by omega)
  have b2 := hb 2 (by omega)
  have b3 := hb 3 (by omega)
  have b4 := hb 4 (by omega)
  have b5 := hb 5 (by omega)
  have b6 := hb 6 (by omega)
  rw [be7] at b0 b1 b2 b3 b4 b5 b6
  rw [decF _ k hk, if_pos (by rw [ByteArray.size_append, hz]; omega)]
  congr 2
  simp only [hv]
  generalize hu : (strOfNums (be 7 n) ++ tl) = u
  rw [hu] at hb
  rw [be7] at hu
  rw [hu] at b0 b1 b2 b3 b4 b5 b6
  rw [b0, b1, b2, b3, b4, b5, b6]
  simp only [List.getD_cons_zero, List.getD_cons_succ]
  omega
/-! ### hexadecimal -/
def hexD : ByteArray := (⟨#[48, 49, 50, 51, 52, 53, 54, 55, 56, 57, 97, 98, 99, 100, 101, 102]⟩ : ByteArray)
def hexL (s : ByteArray) : Nat → List Int
  | 0 => []
  | i + 1 => hexL s i ++ [bt hexD (bt s i / 16), bt hexD (bt s i % 16)]
theorem hexL_len (s : ByteArray) : ∀ n, (hexL s n).length = 2 * n
  | 0 => rfl
  | n + 1 => by rw [hexL, List.length_append, hexL_len s n]; simp; omega
theorem hexL_range (s : ByteArray) : ∀ n, ∀ x ∈ hexL s n, 0 ≤ x ∧ x ≤ 255
  | 0, x, hx => by simp [hexL] at hx
  | n + 1, x, hx => by
    rw [hexL, List.mem_append] at hx
    rcases hx with hx | hx
    · exact hexL_range s n x hx
    · simp only [List.mem_cons, List.not_mem_nil, or_false] at hx
      rcases hx with rfl | rfl
      · exact btr _ _
      · exact btr _ _
theorem hexL_get (s : ByteArray) : ∀ n i, i < n → (hexL s n).getD (2 * i) 0 = bt hexD (bt s i / 16) ∧ (hexL s n).getD (2 * i + 1) 0 = bt hexD (bt s i % 16)
  | 0, i, h => by omega
  | n + 1, i, h => by
    have hl := hexL_len s n
    rw [hexL]
    by_cases c : i < n
    · have := hexL_get s n i c
      rw [List.getD_eq_getElem?_getD, List.getD_eq_getElem?_getD, List.getElem?_append_left (by omega), List.getElem?_append_left (by omega), ← List.getD_eq_getElem?_getD, ← List.getD_eq_getElem?_getD]
      exact this
    · have : i = n := by omega
      subst this
      rw [List.getD_eq_getElem?_getD, List.getD_eq_getElem?_getD, List.getElem?_append_right (by omega), List.getElem?_append_right (by omega), hl, show 2 * i - 2 * i = 0 by omega, show 2 * i + 1 - 2 * i = 1 by omega]
      exact ⟨rfl, rfl⟩
theorem hexEl (s : ByteArray) (hs : s.size ≤ 1000000) (d : Nat) : ∀ (i : Nat), i + d = s.size → ∀ k, d < k → impl_EncodeHex.l0 k s (hexL s i) i = some (strOfNums (hexL s s.size)) := by
  induction d with
  | zero =>
    intro i hd k hk
    obtain ⟨k, rfl, hk⟩ := fuel hk
    rw [impl_EncodeHex.l0, if_neg (by omega), show i = s.size by omega]
  | succ d ih =>
    intro i hd k hk
    obtain ⟨k, rfl, hk⟩ := fuel hk
    have hb := btr s i
    have hl := hexL_len s i
    have e5 : bt s i / 16 % 256 = bt s i / 16 := by omega
    rw [impl_EncodeHex.l0, if_pos (by omega), if_pos (by omega), td hb.1, tm hb.1, e5, if_pos (by omega), if_pos (by omega), if_pos (by omega), if_pos (by omega), Option.bind_some, if_pos (by rw [hl]; simp; omega), show wrap64 ((i : Int) + 1) = ((i + 1 : Nat) : Int) by rw [w64 (by omega) (by omega)]; omega]
    exact ih (i + 1) (by omega) k (by omega)
theorem hexE (s : ByteArray) (hs : s.size ≤ 1000000) (k : Nat) (hk : s.size < k) : impl_EncodeHex.f k s = some (strOfNums (hexL s s.size)) := by
  unfold impl_EncodeHex.f
  exact hexEl s hs s.size 0 (by omega) k (by omega)
def hexOk (v : Int) : Bool := match impl_hexValue.f 5 (bt hexD v) with
  | some u => decide (u = v)
  | _ => false
theorem hexs : ∀ b : Fin 16, hexOk (b.val : Int) = true := by decide +kernel
theorem hexV (v : Int) (h0 : 0 ≤ v) (h1 : v < 16) (k : Nat) (hk : 5 ≤ k) : impl_hexValue.f k (bt hexD v) = some v := by
  have h := hexs ⟨v.toNat, by omega⟩
  have e : ((⟨v.toNat, by omega⟩ : Fin 16).val : Int) = v := by simp; omega
  rw [e] at h
  unfold hexOk at h
  split at h
  · rename_i u hu
    obtain ⟨k, rfl⟩ : ∃ z, k = z + 1 := ⟨k - 1, by omega⟩
    have hk : impl_hexValue.f (k + 1) (bt hexD v) = impl_hexValue.f 5 (bt hexD v) := by
      unfold impl_hexValue.f
      simp only [impl_hexValue.j0]
    rw [hk, hu, of_decide_eq_true h]
  · simp at h
theorem bl_snoc (s : ByteArray) (m : Nat) : ∀ j, bl s j (m + 1) = bl s j m ++ [bt s ((j + m : Nat) : Int)] := by
  induction m with
  | zero => intro j; simp [bl]
  | succ m ih =>
    intro j
    rw [show bl s j (m + 1 + 1) = bt s j :: bl s (j + 1) (m + 1) from rfl, ih (j + 1), show bl s j (m + 1) = bt s j :: bl s (j + 1) m from rfl, show j + 1 + m = j + (m + 1) by omega]
    rfl
theorem hexDl (s : ByteArray) (hs : s.size ≤ 1000000) (d : Nat) : ∀ (i : Nat), i + d = s.size → ∀ k, d + 10 < k → impl_DecodeHex.l0 k (strOfNums (hexL s s.size)) (bl s 0 i) ((2 * i : Nat) : Int) = some (strOfNums (bl s 0 s.size), true) := by
  have hz : (strOfNums (hexL s s.size)).size = 2 * s.size := by rw [sn_size, hexL_len]
  induction d with
  | zero =>
    intro i hd k hk
    obtain ⟨k, rfl, hk⟩ := fuel hk
    rw [impl_DecodeHex.l0, if_neg (by omega), show i = s.size by omega]
  | succ d ih =>
    intro i hd k hk
    obtain ⟨k, rfl, hk⟩ := fuel hk
    have hb := btr s i
    have hl := bl_length s i 0
    have g := hexL_get s s.size i (by omega)
    have g1 := sn_get _ (hexL_range s s.size) (2 * i) (by rw [hexL_len]; omega)
    have g2 := sn_get _ (hexL_range s s.size) (2 * i + 1) (by rw [hexL_len]; omega)
    rw [g.1] at g1
    rw [g.2] at g2
    have w1 : wrap64 (((2 * i : Nat) : Int) + 1) = ((2 * i + 1 : Nat) : Int) := by rw [w64 (by omega) (by omega)]; omega
    have w2 : wrap64 (((2 * i : Nat) : Int) + 2) = ((2 * (i + 1) : Nat) : Int) := by rw [w64 (by omega) (by omega)]; omega
    have w3 : wrap64 (wrap64 (16 * (bt s i / 16)) + bt s i % 16) % 256 = bt s i := by rw [w64 (n := 16 * (bt s i / 16)) (by omega) (by omega), w64 (by omega) (by omega)]; omega
    rw [impl_DecodeHex.l0, if_pos (by omega), if_pos (by omega), g1, hexV _ (by omega) (by omega) k (by omega), Option.bind_some, w1, if_pos (by omega), if_pos (by omega), g2, hexV _ (by omega) (by omega) k (by omega), Option.bind_some, if_neg (by omega), if_neg (by omega), if_pos (by omega), w2, w3]
    have := bl_snoc s i 0
    rw [Nat.zero_add] at this
    rw [← this]
    exact ih (i + 1) (by omega) k (by omega)
theorem hexT (s : ByteArray) (hs : s.size ≤ 1000000) (k : Nat) (hk : s.size + 20 < k) : impl_DecodeHex.f k (strOfNums (hexL s s.size)) = some (s, true) := by
  have hz : (strOfNums (hexL s s.size)).size = 2 * s.size := by rw [sn_size, hexL_len]
  have e : strOfNums (bl s 0 s.size) = s := by
    rw [← ex_bl s s.size (Nat.le_refl _)]
    refine ba_ext (ex_size s s.size (Nat.le_refl _)) fun i hi => ?_
    rw [ex_size s s.size (Nat.le_refl _)] at hi
    exact ex_bt s s.size i (Nat.le_refl _) hi
  unfold impl_DecodeHex.f
  rw [if_pos (by omega), show (0 : Int) = ((2 * 0 : Nat) : Int) from rfl, show ([] : List Int) = bl s 0 0 from rfl, hexDl s hs s.size 0 (by omega) k (by omega), e]

theorem sz_mk (l : List UInt8) : (⟨l.toArray⟩ : ByteArray).size = l.length := by
  rw [show (⟨l.toArray⟩ : ByteArray).size = (⟨l.toArray⟩ : ByteArray).data.size from rfl]; simp
theorem fiI (n : Int) (h0 : -9223372036854775808 ≤ n) (h1 : n ≤ 9223372036854775807) : impl_FormatInt.f n = some ⟨(Lib.itoa n).toArray⟩ := by
  unfold impl_FormatInt.f strconv_Itoa_52.f
  rw [if_pos h0, if_pos h1, Option.bind_some]
def numB (v : Int) : ByteArray := ⟨(Lib.itoa v).toArray⟩
theorem numB_sz (v : Int) (h0 : -9223372036854775808 ≤ v) (h1 : v ≤ 9223372036854775807) : (numB v).size ≤ 21 := by
  unfold numB; rw [sz_mk]; exact Lib.itoa_length_le v h0 h1

theorem dF_app : ∀ (l m : List UInt8) (a : Nat), Lib.decFrom a (l ++ m) = (Lib.decFrom a l).bind fun z => Lib.decFrom z m
  | [], _, _ => rfl
  | b :: r, m, a => by
    rw [List.cons_append, Lib.decFrom, Lib.decFrom]
    cases Lib.digitVal b with
    | none => rfl
    | some d => exact dF_app r m _
theorem dgt (d : Nat) (h : d < 10) : (UInt8.ofNat (48 + d)).toNat = 48 + d := by
  rw [UInt8.toNat_ofNat']; omega
theorem dec_step (u : Nat) : Lib.decDigits u = if u < 10 then [UInt8.ofNat (48 + u)] else Lib.decDigits (u / 10) ++ [UInt8.ofNat (48 + u % 10)] := by
  rw [Lib.decDigits]; split <;> rfl
theorem dec_dF (u : Nat) : Lib.decFrom 0 (Lib.decDigits u) = some u := by
  induction u using Nat.strongRecOn with
  | ind u ih =>
    rw [dec_step]
    by_cases h : u < 10
    · rw [if_pos h, Lib.decFrom, Lib.digitVal, dgt u h, if_pos (by omega)]
      simp [Lib.decFrom]
    · rw [if_neg h, dF_app, ih (u / 10) (by omega), Option.bind_some, Lib.decFrom, Lib.digitVal, dgt _ (by omega), if_pos (by omega)]
      simp only [Lib.decFrom]
      congr 1
      omega
theorem dec_head (u : Nat) : ∃ b r, Lib.decDigits u = b :: r ∧ 48 ≤ b.toNat ∧ b.toNat ≤ 57 := by
  induction u using Nat.strongRecOn with
  | ind u ih =>
    rw [dec_step]
    by_cases h : u < 10
    · rw [if_pos h]; exact ⟨_, _, rfl, by rw [dgt u h]; omega, by rw [dgt u h]; omega⟩
    · rw [if_neg h]
      obtain ⟨b, r, e, h1, h2⟩ := ih (u / 10) (by omega)
      rw [e]
      exact ⟨_, _, rfl, h1, h2⟩
theorem atoi_itoa (n : Int) : Lib.atoi (Lib.itoa n) = some n := by
  unfold Lib.itoa
  by_cases h : n < 0
  · rw [if_pos h, Lib.atoi, if_pos (by decide), Lib.decNat]
    obtain ⟨b, r, e, _, _⟩ := dec_head n.natAbs
    rw [if_neg (by rw [e]; simp), dec_dF, Option.map_some]
    congr 1
    omega
  · rw [if_neg h]
    obtain ⟨b, r, e, h1, h2⟩ := dec_head n.toNat
    have hd := dec_dF n.toNat
    rw [e] at hd ⊢
    have b1 : (b == 45) = false := by
      refine Bool.eq_false_iff.2 fun c => ?_
      rw [beq_iff_eq] at c
      rw [c] at h1; exact absurd h1 (by decide)
    have b2 : (b == 43) = false := by
      refine Bool.eq_false_iff.2 fun c => ?_
      rw [beq_iff_eq] at c
      rw [c] at h1; exact absurd h1 (by decide)
    rw [Lib.atoi, b1, if_neg (by decide), b2, if_neg (by decide), Lib.decNat, if_neg (by simp), hd, Option.map_some]
    congr 1
    omega

/-! ### draws: each comes to something, and how large it is -/
theorem and255 (x : Int) : 0 ≤ Go.bits .and .i64 x 255 ∧ Go.bits .and .i64 x 255 ≤ 255 := by
  unfold Go.bits
  have h : (BitVec.ofInt IntKind.i64.bits x &&& BitVec.ofInt IntKind.i64.bits 255).toNat ≤ 255 := by
    rw [BitVec.toNat_and]
    exact Nat.le_trans Nat.and_le_right (by decide)
  simp only [IntKind.wrap_i64]
  omega
theorem l1ByteT (s : List Int) (hs : s.length ≤ 1048576) (i h : Int) (hi : 0 ≤ i) : ∃ x i' h', spec_l1Byte.f s i h = some (x, i', h') ∧ 0 ≤ x ∧ x ≤ 255 ∧ 0 ≤ i' := by
  unfold spec_l1Byte.f
  by_cases c : i < (s.length : Int)
  · rw [if_pos c, if_pos hi]
    refine ⟨_, _, _, rfl, (and255 _).1, (and255 _).2, ?_⟩
    rw [w64 (by omega) (by omega)]
    omega
  · rw [if_neg c]
    exact ⟨_, _, _, rfl, (and255 _).1, (and255 _).2, hi⟩
theorem l1BelowT (s : List Int) (hs : s.length ≤ 1048576) (i h n : Int) (hi : 0 ≤ i) : ∃ x i' h', spec_l1Below.f s i h n = some (x, i', h') ∧ 0 ≤ x ∧ (0 < n → x < n) ∧ (n ≤ 0 → x = 0) ∧ 0 ≤ i' := by
  unfold spec_l1Below.f
  by_cases c : n ≤ 0
  · rw [if_pos c]
    exact ⟨_, _, _, rfl, by omega, by omega, fun _ => rfl, hi⟩
  · rw [if_neg c]
    by_cases c2 : n ≤ 256
    · obtain ⟨x, i1, h1, e1, a1, b1, d1⟩ := l1ByteT s hs i h hi
      rw [if_pos c2, e1, Option.bind_some, if_neg (by omega)]
      refine ⟨_, _, _, rfl, ?_, ?_, by omega, d1⟩
      · rw [tm a1]; exact Int.emod_nonneg _ (by omega)
      · intro _; rw [tm a1]; exact Int.emod_lt_of_pos _ (by omega)
    · obtain ⟨x1, i1, h1, e1, a1, b1, d1⟩ := l1ByteT s hs i h hi
      obtain ⟨x2, i2, h2, e2, a2, b2, d2⟩ := l1ByteT s hs i1 h1 d1
      obtain ⟨x3, i3, h3, e3, a3, b3, d3⟩ := l1ByteT s hs i2 h2 d2
      obtain ⟨x4, i4, h4, e4, a4, b4, d4⟩ := l1ByteT s hs i3 h3 d3
      rw [if_neg c2, e1, Option.bind_some, e2, Option.bind_some, e3, Option.bind_some, e4, Option.bind_some, if_neg (by omega)]
      rw [w64 (n := x1 * 16777216) (by omega) (by omega), w64 (n := x2 * 65536) (by omega) (by omega), w64 (n := x3 * 256) (by omega) (by omega), w64 (n := x1 * 16777216 + x2 * 65536) (by omega) (by omega), w64 (n := x1 * 16777216 + x2 * 65536 + x3 * 256) (by omega) (by omega), w64 (n := x1 * 16777216 + x2 * 65536 + x3 * 256 + x4) (by omega) (by omega)]
      refine ⟨_, _, _, rfl, ?_, ?_, by omega, d4⟩
      · rw [tm (by omega)]; exact Int.emod_nonneg _ (by omega)
      · intro _; rw [tm (by omega)]; exact Int.emod_lt_of_pos _ (by omega)

theorem l1PickIntT (s : List Int) (hs : s.length ≤ 1048576) (i h : Int) (hi : 0 ≤ i) (l : List Int) (hl : 0 < l.length) : ∃ x i' h', spec_l1PickInt.f s i h l = some (x, i', h') ∧ x ∈ l ∧ 0 ≤ i' := by
  obtain ⟨x, i1, h1, e1, a1, b1, _, d1⟩ := l1BelowT s hs i h (l.length : Int) hi
  have := b1 (by omega)
  unfold spec_l1PickInt.f
  rw [e1, Option.bind_some, if_pos a1, if_pos this]
  refine ⟨_, _, _, rfl, ?_, d1⟩
  unfold rd
  exact getD_mem l _ _ (by omega)

theorem l1NewL (s : List Int) (hs : s.length ≤ 1048576) (d : Nat) : ∀ (i : Nat) (h : Int), i + d = s.length → ∀ k, d < k → ∃ h', spec_l1New.l0 k s h i = some (s, 0, h') := by
  induction d with
  | zero =>
    intro i h hd k hk
    obtain ⟨k, rfl, hk⟩ := fuel hk
    rw [spec_l1New.l0, if_neg (by omega)]
    exact ⟨_, rfl⟩
  | succ d ih =>
    intro i h hd k hk
    obtain ⟨k, rfl, hk⟩ := fuel hk
    rw [spec_l1New.l0, if_pos (by omega)]
    by_cases c : (i : Int) < 4000
    · rw [if_pos c, if_pos (by omega), show wrap64 ((i : Int) + 1) = ((i + 1 : Nat) : Int) by rw [w64 (by omega) (by omega)]; omega]
      exact ih (i + 1) _ (by omega) k (by omega)
    · rw [if_neg c]
      exact ⟨_, rfl⟩
theorem l1NewT (s : List Int) (hs : s.length ≤ 1048576) (k : Nat) (hk : s.length < k) : ∃ h', spec_l1New.f k s = some (s, 0, h') := by
  unfold spec_l1New.f
  exact l1NewL s hs s.length 0 _ (by omega) k hk

theorem l1TextL (s : List Int) (hs : s.length ≤ 1048576) (m : Int) (d : Nat) : ∀ (n : Int) (xs : List Int) (i h : Int), 0 ≤ i → n ≤ d → d ≤ 100000 → xs.length + d ≤ 1000000 → ∀ k, d < k → ∃ t i' h', spec_l1Text.l0 k xs m n s i h = some (t, i', h') ∧ t.size ≤ xs.length + d ∧ 0 ≤ i' := by
  induction d with
  | zero =>
    intro n xs i h hi hn _ _ k hk
    obtain ⟨k, rfl, hk⟩ := fuel hk
    rw [spec_l1Text.l0, if_neg (by omega)]
    exact ⟨_, _, _, rfl, by rw [sn_size]; omega, hi⟩
  | succ d ih =>
    intro n xs i h hi hn hd hx k hk
    obtain ⟨k, rfl, hk⟩ := fuel hk
    rw [spec_l1Text.l0]
    by_cases c : n > 0
    · obtain ⟨x, i1, h1, e1, a1, b1, d1⟩ := l1ByteT s hs i h hi
      have hw : wrap64 (n - 1) = n - 1 := w64 (by omega) (by omega)
      have st := fun z => ih (n - 1) (xs ++ [z]) i1 h1 d1 (by omega) (by omega) (by simp only [List.length_append, List.length_singleton]; omega) k (by omega)
      rw [if_pos c, e1, Option.bind_some, hw]
      by_cases c1 : m = 1
      · rw [if_pos c1, if_neg (by omega), if_pos (by omega)]
        obtain ⟨t, i', h', e, f, g⟩ := st (Int.tmod x 2 % 256)
        exact ⟨t, i', h', e, by simp only [List.length_append, List.length_singleton] at f; omega, g⟩
      · rw [if_neg c1]
        by_cases c2 : m = 2
        · rw [if_pos c2, if_pos (by omega)]
          obtain ⟨t, i', h', e, f, g⟩ := st (wrap64 (97 + Int.tmod x 4) % 256)
          exact ⟨t, i', h', e, by simp only [List.length_append, List.length_singleton] at f; omega, g⟩
        · rw [if_neg c2, if_pos (by omega)]
          obtain ⟨t, i', h', e, f, g⟩ := st (x % 256)
          exact ⟨t, i', h', e, by simp only [List.length_append, List.length_singleton] at f; omega, g⟩
    · rw [if_neg c]
      exact ⟨_, _, _, rfl, by rw [sn_size]; omega, hi⟩
theorem l1TextT (s : List Int) (hs : s.length ≤ 1048576) (i h : Int) (hi : 0 ≤ i) (n : Int) (hn0 : 0 ≤ n) (hn : n ≤ 90000) (k : Nat) (hk : 100000 < k) : ∃ t i' h', spec_l1Text.f k s i h n = some (t, i', h') ∧ (t.size : Int) ≤ n ∧ 0 ≤ i' := by
  obtain ⟨x, i1, h1, e1, a1, b1, _, d1⟩ := l1BelowT s hs i h 4 hi
  obtain ⟨y, i2, h2, e2, a2, b2, _, d2⟩ := l1BelowT s hs i1 h1 (n + 1) d1
  have := b2 (by omega)
  unfold spec_l1Text.f
  rw [e1, Option.bind_some, w64 (by omega) (by omega), e2, Option.bind_some]
  obtain ⟨t, i3, h3, e3, f3, d3⟩ := l1TextL s hs x n.toNat y [] i2 h2 d2 (by omega) (by omega) (by simp only [List.length_nil]; omega) k (by omega)
  exact ⟨t, i3, h3, e3, by simp only [List.length_nil] at f3; omega, d3⟩
theorem ex_le (a : ByteArray) (i j : Nat) : (a.extract i j).size ≤ a.size := by rw [ByteArray.size_extract]; omega
theorem sn1 (z : Int) : (strOfNums [z]).size = 1 := by rw [sn_size]; rfl
/-- A spoilt text: a byte out, a byte in, cut, or a byte changed. -/
theorem l1SpoilT (s : List Int) (hs : s.length ≤ 1048576) (i h : Int) (hi : 0 ≤ i) (a : ByteArray) (ha : a.size ≤ 1000000000) (k : Nat) (hk : 100000 < k) : ∃ t i' h', spec_l1Spoil.f k s i h a = some (t, i', h') ∧ t.size ≤ a.size + 3 ∧ 0 ≤ i' := by
  unfold spec_l1Spoil.f
  by_cases c : (a.size : Int) = 0
  · obtain ⟨t, i1, h1, e1, f1, d1⟩ := l1TextT s hs i h hi 3 (by omega) (by omega) k hk
    rw [if_pos c, e1, Option.bind_some]
    exact ⟨t, i1, h1, rfl, by omega, d1⟩
  · obtain ⟨x, i1, h1, e1, a1, b1, _, d1⟩ := l1BelowT s hs i h (a.size : Int) hi
    have hx := b1 (by omega)
    obtain ⟨y, i2, h2, e2, a2, b2, _, d2⟩ := l1BelowT s hs i1 h1 4 d1
    have w1 : wrap64 (x + 1) = x + 1 := w64 (by omega) (by omega)
    have s1 := ex_le a 0 x.toNat
    have s2 := ex_le a (x + 1).toNat a.size
    have s3 := ex_le a x.toNat a.size
    have z1 : (a.extract 0 x.toNat).size = x.toNat := by rw [ByteArray.size_extract]; omega
    have z2 : (a.extract (x + 1).toNat a.size).size = a.size - (x + 1).toNat := by rw [ByteArray.size_extract]; omega
    have z3 : (a.extract x.toNat a.size).size = a.size - x.toNat := by rw [ByteArray.size_extract]; omega
    rw [if_neg c, e1, Option.bind_some, e2, Option.bind_some]
    dsimp only
    rw [w1]
    by_cases c0 : y = 0
    · rw [if_pos c0, if_pos a1, if_pos (by omega), if_pos (by omega), if_pos (by omega), if_pos (by omega)]
      exact ⟨_, _, _, rfl, by rw [ByteArray.size_append]; omega, d2⟩
    · rw [if_neg c0]
      by_cases c1 : y = 1
      · obtain ⟨u, i3, h3, e3, a3, b3, d3⟩ := l1ByteT s hs i2 h2 d2
        rw [if_pos c1, if_pos a1, if_pos (by omega), e3, Option.bind_some, Option.bind_some]
        dsimp only
        rw [if_pos (by rw [sn1]; omega), if_pos (by rw [ByteArray.size_append, sn1]; omega)]
        exact ⟨_, _, _, rfl, by rw [ByteArray.size_append, ByteArray.size_append, sn1]; omega, d3⟩
      · rw [if_neg c1]
        by_cases c2 : y = 2
        · rw [if_pos c2, if_pos a1, if_pos (by omega)]
          exact ⟨_, _, _, rfl, by omega, d2⟩
        · obtain ⟨u, i3, h3, e3, a3, b3, _, d3⟩ := l1BelowT s hs i2 h2 255 d2
          rw [if_neg c2, if_pos a1, if_pos (by omega), if_pos (by omega), e3, Option.bind_some, Option.bind_some]
          dsimp only
          rw [if_pos (by rw [sn1]; omega), if_pos (by omega), if_pos (by omega), if_pos (by rw [ByteArray.size_append, sn1]; omega)]
          exact ⟨_, _, _, rfl, by rw [ByteArray.size_append, ByteArray.size_append, sn1]; omega, d3⟩

def okN (v : Int) : Prop := -9223372036854775808 ≤ v ∧ v ≤ 9223372036854775807
theorem w64b (x : Int) : okN (wrap64 x) := by unfold okN wrap64; omega
theorem l1NumT (s : List Int) (hs : s.length ≤ 1048576) (i h : Int) (hi : 0 ≤ i) : ∃ v i' h', spec_l1Num.f s i h = some (v, i', h') ∧ okN v ∧ 0 ≤ i' := by
  obtain ⟨x, i1, h1, e1, a1, b1, _, d1⟩ := l1BelowT s hs i h 8 hi
  unfold spec_l1Num.f
  rw [e1, Option.bind_some]
  dsimp only
  by_cases c0 : x = 0
  · obtain ⟨y, i2, h2, e2, a2, d2⟩ := l1PickIntT s hs i1 h1 d1 ([(-1), 0, 127, 128, 255, 256, 16383, 16384, 65535, 65536, 562949953421311, 562949953421312, 999999999, 1000000000, (-999999999), 9223372036854775807, (-9223372036854775808)] : List Int) (by simp)
    rw [if_pos c0, e2, Option.bind_some]
    refine ⟨y, i2, h2, rfl, ?_, d2⟩
    unfold okN
    simp only [List.mem_cons, List.not_mem_nil, or_false] at a2
    omega
  · rw [if_neg c0]
    by_cases c1 : x = 1
    · obtain ⟨y, i2, h2, e2, a2, b2, _, d2⟩ := l1BelowT s hs i1 h1 1000000000 d1
      obtain ⟨z, i3, h3, e3, a3, b3, _, d3⟩ := l1BelowT s hs i2 h2 1000000000 d2
      rw [if_pos c1, e2, Option.bind_some]
      dsimp only
      rw [e3, Option.bind_some]
      exact ⟨_, i3, h3, rfl, w64b _, d3⟩
    · rw [if_neg c1]
      by_cases c2 : x = 2
      · obtain ⟨y, i2, h2, e2, a2, b2, _, d2⟩ := l1BelowT s hs i1 h1 100000 d1
        rw [if_pos c2, e2, Option.bind_some]
        exact ⟨_, i2, h2, rfl, w64b _, d2⟩
      · obtain ⟨y, i2, h2, e2, a2, b2, _, d2⟩ := l1BelowT s hs i1 h1 70000 d1
        have := b2 (by omega)
        rw [if_neg c2, e2, Option.bind_some]
        exact ⟨y, i2, h2, rfl, ⟨by omega, by omega⟩, d2⟩
theorem drawEV (s : List Int) (hs : s.length ≤ 1048576) (k : Nat) (hk : s.length < k) : ∃ n, spec_DrawEncodeVarint.f k s = some n ∧ okN n := by
  obtain ⟨h, e⟩ := l1NewT s hs k hk
  obtain ⟨n, i1, h1, e1, o1, d1⟩ := l1NumT s hs 0 h (by omega)
  unfold spec_DrawEncodeVarint.f
  rw [e, Option.bind_some]
  dsimp only
  rw [e1, Option.bind_some]
  exact ⟨n, rfl, o1⟩
theorem drawEH (s : List Int) (hs : s.length ≤ 1048576) (k : Nat) (hk : 2000000 < k) : ∃ t, spec_DrawEncodeHex.f k s = some t ∧ t.size ≤ 40 := by
  obtain ⟨h, e⟩ := l1NewT s hs k (by omega)
  obtain ⟨t, i1, h1, e1, o1, d1⟩ := l1TextT s hs 0 h (by omega) 40 (by omega) (by omega) k (by omega)
  unfold spec_DrawEncodeHex.f
  rw [e, Option.bind_some]
  dsimp only
  rw [e1, Option.bind_some]
  exact ⟨t, rfl, by omega⟩
theorem drawDV (s : List Int) (hs : s.length ≤ 1048576) (k : Nat) (hk : 2000000 < k) : ∃ t, spec_DrawDecodeVarint.f k s = some t ∧ t.size ≤ 100 := by
  obtain ⟨h, e⟩ := l1NewT s hs k (by omega)
  obtain ⟨n, i1, h1, e1, o1, d1⟩ := l1NumT s hs 0 h (by omega)
  obtain ⟨t, e2, z2⟩ := encSx n k (by omega)
  obtain ⟨u, i3, h3, e3, o3, d3⟩ := l1TextT s hs i1 h1 d1 4 (by omega) (by omega) k (by omega)
  obtain ⟨y, i4, h4, e4, _, _, _, d4⟩ := l1BelowT s hs i3 h3 4 d3
  have hz : (t ++ u).size ≤ 11 := by rw [ByteArray.size_append]; omega
  unfold spec_DrawDecodeVarint.f
  rw [e, Option.bind_some]
  dsimp only
  rw [e1, Option.bind_some]
  dsimp only
  rw [e2, Option.bind_some, e3, Option.bind_some]
  dsimp only
  rw [if_pos (by omega)]
  unfold spec_l1Once.f
  rw [e4, Option.bind_some, Option.bind_some]
  dsimp only
  by_cases c : (y == 0) = true
  · obtain ⟨v, i5, h5, e5, o5, d5⟩ := l1SpoilT s hs i4 h4 d4 (t ++ u) (by omega) k (by omega)
    rw [if_pos c, e5, Option.bind_some]
    exact ⟨v, rfl, by omega⟩
  · rw [if_neg c]
    exact ⟨_, rfl, by omega⟩
theorem pin_num (n : Int) (h : okN n) : impl_ParseInt.f (numB n) = some (if -999999999 ≤ n ∧ n ≤ 999999999 then (n, true) else (0, false)) := by
  have ht : (numB n).toList = Lib.itoa n := by unfold numB; rw [tl_eq]
  have hz : (numB n).size = (Lib.itoa n).length := by unfold numB; rw [sz_mk]
  have hd : -999999999 ≤ n ∧ n ≤ 999999999 → (Lib.itoa n).length ≤ 10 := by
    rintro ⟨h0, h1⟩
    have hn : ∀ u : Nat, u < 1000000000 → (Lib.decDigits u).length ≤ 9 := by
      intro u hu
      rw [Lib.decDigits_length]
      by_cases c : Lib.nDigits u ≤ 9
      · exact c
      · exfalso
        have hp : ∀ (k u : Nat), k < Lib.nDigits u → 10 ^ k ≤ u ∨ k = 0 := by
          intro k
          induction k with
          | zero => intro u _; exact .inr rfl
          | succ k ih =>
            intro u hk
            left
            by_cases c : u < 10
            · rw [Lib.nDigits_small c] at hk; omega
            · rw [Lib.nDigits_big c] at hk
              rcases ih (u / 10) (by omega) with q | q
              · rw [Nat.pow_succ]; omega
              · subst q; omega
        rcases hp 9 u (by omega) with q | q
        · have : (10 : Nat) ^ 9 = 1000000000 := by decide
          omega
        · omega
    unfold Lib.itoa
    by_cases c : n < 0
    · rw [if_pos c, List.length_cons]
      have := hn n.natAbs (by omega)
      omega
    · rw [if_neg c]
      have := hn n.toNat (by omega)
      omega
  unfold impl_ParseInt.f
  rw [ht, atoi_itoa, hz]
  by_cases h : -999999999 ≤ n ∧ n ≤ 999999999
  · have := hd h
    rw [if_neg (by omega), if_pos h]
    simp only
    rw [if_pos ⟨trivial, h⟩]
  · rw [if_neg h]
    by_cases c : ((Lib.itoa n).length : Int) > 10
    · rw [if_pos c]
    · rw [if_neg c]
      simp only
      rw [if_neg (fun g => h g.2)]
theorem toList_nil_iff (t : ByteArray) : t.toList = ([] : List UInt8) ↔ t.size = 0 := by
  rw [tl_eq]
  constructor
  · intro h
    have : t.data.toList.length = 0 := by rw [h]; rfl
    rw [Array.length_toList] at this
    exact this
  · intro h
    apply List.eq_nil_of_length_eq_zero
    rw [Array.length_toList]
    exact h
theorem law2 (s : List Int) (hs : s.length ≤ 1048576) (tl : ByteArray) (ht : tl.size ≤ 40) (k : Nat) (hk : 2000100 < k) : laws_FnEncodings.j2 k s tl false = some true := by
  obtain ⟨k, rfl⟩ : ∃ z, k = z + 1 := ⟨k - 1, by omega⟩
  obtain ⟨t, e, hz⟩ := drawDV s hs k (by omega)
  obtain ⟨z, j, e2, c⟩ := decS t (by omega) k (by omega)
  rw [laws_FnEncodings.j2, if_neg (by decide), hexE tl (by omega) k (by omega), Option.bind_some, hexT tl (by omega) k (by omega), Option.bind_some, e, Option.bind_some, e2, Option.bind_some]
  dsimp only
  rw [if_pos rfl, if_pos rfl]
  rcases c with ⟨rfl, rfl⟩ | ⟨m, m1, m7, ms, hc, rfl, rfl⟩
  · rw [if_pos rfl]
  · rw [if_neg (by omega), if_pos (by omega), Option.bind_some, if_pos (by omega), Option.bind_some, if_pos (by omega), decE t m m1 m7 ms hc k (by omega), Option.bind_some, Option.bind_some, if_pos (by omega), if_pos (by omega), Int.toNat_natCast]
    simp
theorem law1 (s : List Int) (hs : s.length ≤ 1048576) (n : Int) (hn : okN n) (tl : ByteArray) (ht : tl.size ≤ 40) (k : Nat) (hk : 2000200 < k) : laws_FnEncodings.j1 k s n tl false = some true := by
  obtain ⟨k, rfl⟩ : ∃ z, k = z + 1 := ⟨k - 1, by omega⟩
  have hL := law2 s hs tl ht k (by omega)
  have hF : impl_FormatInt.f n = some (numB n) := fiI n hn.1 hn.2
  rw [laws_FnEncodings.j1, if_neg (by decide), hF, Option.bind_some, pin_num n hn, Option.bind_some]
  by_cases h : -999999999 ≤ n ∧ n ≤ 999999999
  · rw [if_pos h]
    dsimp only
    rw [if_pos (by omega), decide_eq_true (show n < 1000000000 by omega), if_neg (by decide), if_pos rfl, show (n != n) = false by simp]
    exact hL
  · rw [if_neg h]
    dsimp only
    by_cases c : n > -1000000000
    · rw [if_pos c, decide_eq_false (show ¬ n < 1000000000 by omega), if_neg (by decide), if_neg (by decide)]
      exact hL
    · rw [if_neg c, if_neg (by decide), if_neg (by decide)]
      exact hL
theorem law0 (s : List Int) (hs : s.length ≤ 1048576) (n : Int) (hn : okN n) (tl : ByteArray) (ht : tl.size ≤ 40) (k : Nat) (hk : 2000300 < k) : laws_FnEncodings.j0 k s n tl false = some true := by
  obtain ⟨k, rfl⟩ : ∃ z, k = z + 1 := ⟨k - 1, by omega⟩
  have hL := law1 s hs n hn tl ht k (by omega)
  rw [laws_FnEncodings.j0, if_neg (by decide), encF n hn.2 k (by omega), Option.bind_some]
  by_cases h : 0 ≤ n ∧ n < 72057594037927936
  · have hz : (strOfNums (be 7 n)).size = 7 := by rw [sn_size, be7]; rfl
    have hne : ¬ (strOfNums (be 7 n)).toList = ([] : List UInt8) := by rw [toList_nil_iff]; omega
    rw [if_pos h, if_pos (by omega), decFT n h.1 h.2 tl k (by omega), Option.bind_some]
    dsimp only
    rw [if_neg hne, if_pos rfl, if_pos rfl, if_pos (by omega), if_neg (by omega), decide_eq_false (show ¬ n ≥ 72057594037927936 by omega), show ((strOfNums (be 7 n)).toList == ([] : List UInt8)) = false by rw [beq_eq_false_iff_ne]; exact hne]
    exact hL
  · rw [if_neg h, if_pos (by rw [show (⟨#[]⟩ : ByteArray).size = 0 from rfl]; omega), decF _ k (by omega), Option.bind_some]
    have he : (⟨#[]⟩ : ByteArray).toList = ([] : List UInt8) := by rw [toList_nil_iff]; rfl
    rw [if_pos he, he]
    by_cases c : n < 0
    · rw [if_pos c]
      exact hL
    · rw [if_neg c, decide_eq_true (show n ≥ 72057594037927936 by omega)]
      exact hL

theorem FnEncodings : FnEncodingsPure := by
  intro s hs
  by_cases hn : (s.length : Int) > 1048576
  · refine ⟨0, ?_⟩
    unfold laws_FnEncodings.f laws_big.f
    rw [decide_eq_true hn, Option.bind_some, if_pos rfl]
  have hsl : s.length ≤ 1048576 := by omega
  refine ⟨3000001, ?_⟩
  generalize hk : (3000001 : Nat) = k
  obtain ⟨n, e1, o1⟩ := drawEV s hsl k (by omega)
  obtain ⟨tl, e2, z2⟩ := drawEH s hsl k (by omega)
  have hL := law0 s hsl n o1 tl z2 k (by omega)
  unfold laws_FnEncodings.f
  rw [show laws_big.f s = some false by unfold laws_big.f; rw [decide_eq_false hn], Option.bind_some, if_neg (by decide), e1, Option.bind_some, e2, Option.bind_some, encI n k (by omega), Option.bind_some]
  by_cases h : 0 ≤ n ∧ n ≤ 562949953421311
  · have hl := enc_len 6 n
    have hz : (strOfNums (enc 6 n)).size = (enc 6 n).length := sn_size _
    have hne : ¬ (strOfNums (enc 6 n)).toList = ([] : List UInt8) := by rw [toList_nil_iff]; omega
    have hne' : ((strOfNums (enc 6 n)).toList != ([] : List UInt8)) = true := by rw [bne_iff_ne]; exact hne
    rw [if_pos h, if_pos (by omega), decT n h.1 h.2 tl (by omega) k (by omega), Option.bind_some]
    dsimp only
    rw [if_pos h.1, hne', decide_eq_true h.2, if_neg (by decide), if_neg hne, if_pos rfl, hz, show (((enc 6 n).length : Int) != ((enc 6 n).length : Int)) = false by simp]
    exact hL
  · obtain ⟨z, j, e3, _⟩ := decS ((⟨#[]⟩ : ByteArray) ++ tl) (by rw [ByteArray.size_append, show (⟨#[]⟩ : ByteArray).size = 0 from rfl]; omega) k (by omega)
    have he : (⟨#[]⟩ : ByteArray).toList = ([] : List UInt8) := by rw [toList_nil_iff]; rfl
    rw [if_neg h, if_pos (by rw [show (⟨#[]⟩ : ByteArray).size = 0 from rfl]; omega), e3, Option.bind_some, he]
    dsimp only
    by_cases c : n ≥ 0
    · rw [if_pos c, decide_eq_false (show ¬ n ≤ 562949953421311 by omega), if_neg (by decide), if_pos rfl]
      exact hL
    · rw [if_neg c, if_neg (by decide), if_pos rfl]
      exact hL

end Go.Proofs.YtdpaopfghggiaaaDoor.Pure
