/- The law FnExactDecodeVarint answers true for every string that the row admits: the reference tries each length and encodes again, the program reads byte by byte; both accept just the shortest encodings. -/
import Derived.Test.YtkdkibdigfglhaaPFnExactDecodeVarintx1
import Derived.Test.YtkdkibdigfglhaaBase
namespace Go.Proofs.Ytkdkibdigfglhaa.Pure
open Go.RowKit Go.Proofs.Ytkdkibdigfglhaa.PFnExactDecodeVarint Go.Proofs.YtkdkibdigfglhaaW.PrintWords Go.Proofs.YtkdkibdigfglhaaW.PrintLast Go.Proofs.YtkdkibdigfglhaaW.PrintMore Go.Proofs.Ytkdkibdigfglhaa.Base
set_option linter.unusedVariables false
set_option linter.unusedSimpArgs false

/-- The number that m bytes from place j on tell, the lowest seven bits first. -/
def lo (s : ByteArray) : Nat → Nat → Int
  | _, 0 => 0
  | j, m + 1 => bt s j % 128 + 128 * lo s (j + 1) m
/-- Those bytes. -/
def bl (s : ByteArray) : Nat → Nat → List Int
  | _, 0 => []
  | j, m + 1 => bt s j :: bl s (j + 1) m
/-- The encoding of a number. -/
def enc : Nat → Int → List Int
  | 0, n => [n]
  | f + 1, n => if n ≥ 128 then (128 + n % 128) :: enc f (n / 128) else [n]
/-- A shortest encoding. -/
def canon : List Int → Prop
  | [] => False
  | [b] => 0 ≤ b ∧ b < 128
  | b :: c :: r => 128 ≤ b ∧ b ≤ 255 ∧ canon (c :: r) ∧ (r = [] → c ≠ 0)

theorem lo_snoc (s : ByteArray) (m : Nat) : ∀ j, lo s j (m + 1) = lo s j m + bt s ((j + m : Nat) : Int) % 128 * 128 ^ m := by
  induction m with
  | zero => intro j; simp [lo]
  | succ m ih =>
    intro j
    have h := ih (j + 1)
    rw [show lo s j (m + 1 + 1) = bt s j % 128 + 128 * lo s (j + 1) (m + 1) from rfl, h, show lo s j (m + 1) = bt s j % 128 + 128 * lo s (j + 1) m from rfl, show j + 1 + m = j + (m + 1) by omega, Int.pow_succ]
    rw [Int.mul_add, Int.add_assoc, Int.mul_comm 128 (_ * _), Int.mul_assoc]
theorem lo_range (s : ByteArray) (m : Nat) : ∀ j, 0 ≤ lo s j m ∧ lo s j m < 128 ^ m := by
  induction m with
  | zero => intro j; simp [lo]
  | succ m ih =>
    intro j
    have h := ih (j + 1)
    have hb := btr s j
    rw [Int.pow_succ]
    simp only [lo]
    omega
theorem bl_length (s : ByteArray) (m : Nat) : ∀ j, (bl s j m).length = m := by
  induction m with
  | zero => intro j; rfl
  | succ m ih => intro j; simp [bl, ih]
theorem bl_get (s : ByteArray) (m : Nat) : ∀ j t, t < m → (bl s j m).getD t 0 = bt s ((j + t : Nat) : Int) := by
  induction m with
  | zero => intro j t h; omega
  | succ m ih =>
    intro j t h
    cases t with
    | zero => simp [bl]
    | succ t =>
      have := ih (j + 1) t (by omega)
      rw [show j + 1 + t = j + (t + 1) by omega] at this
      simpa [bl] using this
theorem ex_bl (s : ByteArray) (m : Nat) (h : m ≤ s.size) : s.extract 0 m = strOfNums (bl s 0 m) := by
  refine ba_ext ?_ fun i hi => ?_
  · rw [ex_size s m h, sn_size, bl_length]
  · rw [ex_size s m h] at hi
    rw [ex_bt s m i h hi, sn_bt _ _ (by omega) (by rw [bl_length]; omega)]
    unfold rd
    rw [Int.toNat_natCast, bl_get s m 0 i hi, Nat.zero_add]
    have hb := btr s i
    rw [UInt8.toNat_ofNat']
    omega
theorem sn_inj : ∀ {xs ys : List Int}, (∀ x ∈ xs, 0 ≤ x ∧ x ≤ 255) → (∀ x ∈ ys, 0 ≤ x ∧ x ≤ 255) → strOfNums xs = strOfNums ys → xs = ys := by
  intro xs ys hx hy h
  have h1 : (strOfNums xs).data.toList = (strOfNums ys).data.toList := by rw [h]
  rw [sn_toList, sn_toList] at h1
  clear h
  induction xs generalizing ys with
  | nil => cases ys with
    | nil => rfl
    | cons y ys => simp at h1
  | cons x xs ih => cases ys with
    | nil => simp at h1
    | cons y ys =>
      simp only [List.map_cons, List.cons.injEq] at h1
      have hx0 := hx x (by simp)
      have hy0 := hy y (by simp)
      have e : x = y := by
        have h2 := congrArg UInt8.toNat h1.1
        rw [UInt8.toNat_ofNat', UInt8.toNat_ofNat'] at h2
        omega
      rw [e, ih (fun z hz => hx z (by simp [hz])) (fun z hz => hy z (by simp [hz])) h1.2]
theorem bl_range (s : ByteArray) (m : Nat) : ∀ j, ∀ x ∈ bl s j m, 0 ≤ x ∧ x ≤ 255 := by
  induction m with
  | zero => intro j x hx; simp [bl] at hx
  | succ m ih =>
    intro j x hx
    simp only [bl, List.mem_cons] at hx
    rcases hx with rfl | hx
    · exact btr s j
    · exact ih (j + 1) x hx
theorem enc_range (f : Nat) : ∀ n : Int, 0 ≤ n → n < 128 ^ (f + 1) → ∀ x ∈ enc f n, 0 ≤ x ∧ x ≤ 255 := by
  induction f with
  | zero =>
    intro n h0 h1 x hx
    simp only [enc, List.mem_singleton] at hx
    subst hx
    simp at h1
    omega
  | succ f ih =>
    intro n h0 h1 x hx
    simp only [enc] at hx
    by_cases h : n ≥ 128
    · rw [if_pos h, List.mem_cons] at hx
      rcases hx with rfl | hx
      · omega
      · rw [Int.pow_succ] at h1
        exact ih (n / 128) (by omega) (Int.ediv_lt_of_lt_mul (by decide) h1) x hx
    · rw [if_neg h, List.mem_singleton] at hx
      subst hx
      omega
theorem enc_ne (f : Nat) (n : Int) : ∃ b r, enc f n = b :: r := by
  cases f with
  | zero => exact ⟨_, _, rfl⟩
  | succ f =>
    simp only [enc]
    split
    · exact ⟨_, _, rfl⟩
    · exact ⟨_, _, rfl⟩
theorem enc_canon (f : Nat) : ∀ n : Int, 0 ≤ n → n < 128 ^ (f + 1) → canon (enc f n) ∧ (n ≠ 0 → enc f n ≠ [0]) := by
  induction f with
  | zero =>
    intro n h0 h1
    refine ⟨⟨h0, by simpa using h1⟩, fun h => by simpa [enc] using h⟩
  | succ f ih =>
    intro n h0 h1
    simp only [enc]
    by_cases h : n ≥ 128
    · rw [Int.pow_succ] at h1
      obtain ⟨ih1, ih2⟩ := ih (n / 128) (by omega) (Int.ediv_lt_of_lt_mul (by decide) h1)
      rw [if_pos h]
      obtain ⟨b, r, e⟩ := enc_ne f (n / 128)
      rw [e] at ih1 ih2 ⊢
      refine ⟨⟨by omega, by omega, ih1, fun hr hb => ?_⟩, fun _ => by simp⟩
      subst hr hb
      exact ih2 (by omega) rfl
    · rw [if_neg h]
      exact ⟨⟨h0, by omega⟩, fun h => by simpa using h⟩
theorem canon_pos (s : ByteArray) (m : Nat) : ∀ j, canon (bl s j m) → bl s j m ≠ [0] → 1 ≤ lo s j m := by
  induction m with
  | zero => intro j h; exact h.elim
  | succ m ih =>
    intro j h hne
    cases m with
    | zero =>
      obtain ⟨h0, h1⟩ := h
      have : bt s j ≠ 0 := fun e => hne (by simp [bl, e])
      simp only [lo]
      omega
    | succ m =>
      obtain ⟨h1, h2, h3, h4⟩ := h
      have := ih (j + 1) h3 (by
        intro e
        simp only [bl, List.cons.injEq] at e
        exact h4 e.2 e.1)
      have hb := btr s j
      simp only [lo] at this ⊢
      omega
theorem canon_enc (s : ByteArray) (m : Nat) : ∀ j f, m ≤ f + 1 → canon (bl s j m) → enc f (lo s j m) = bl s j m := by
  induction m with
  | zero => intro j f _ h; exact h.elim
  | succ m ih =>
    intro j f hf h
    have hb := btr s j
    cases m with
    | zero =>
      obtain ⟨h0, h1⟩ := h
      have e : lo s j (0 + 1) = bt s j := by
        simp only [lo]
        omega
      rw [e]
      cases f with
      | zero => rfl
      | succ f =>
        simp only [enc]
        rw [if_neg (by omega)]
        rfl
    | succ m =>
      obtain ⟨h1, h2, h3, h4⟩ := h
      cases f with
      | zero => omega
      | succ f =>
        have hp := canon_pos s (m + 1) (j + 1) h3 (by
          intro e
          simp only [bl, List.cons.injEq] at e
          exact h4 e.2 e.1)
        have := ih (j + 1) f (by omega) h3
        show enc (f + 1) (bt s j % 128 + 128 * lo s (j + 1) (m + 1)) = bt s j :: bl s (j + 1) (m + 1)
        generalize lo s (j + 1) (m + 1) = L at this hp
        simp only [enc]
        rw [if_pos (by omega), show (bt s j % 128 + 128 * L) / 128 = L by omega, this, show 128 + (bt s j % 128 + 128 * L) % 128 = bt s j by omega]
/-- What a shortest encoding is, by its bytes. -/
theorem canon_iff (s : ByteArray) (m : Nat) : ∀ j, canon (bl s j (m + 1)) ↔ (∀ t : Nat, t < m → 128 ≤ bt s ((j + t : Nat) : Int)) ∧ bt s ((j + m : Nat) : Int) < 128 ∧ (m = 0 ∨ bt s ((j + m : Nat) : Int) ≠ 0) := by
  induction m with
  | zero =>
    intro j
    have hb := btr s j
    simp [bl, canon]
    omega
  | succ m ih =>
    intro j
    have hb := btr s j
    have e : canon (bl s j (m + 1 + 1)) ↔ 128 ≤ bt s j ∧ bt s j ≤ 255 ∧ canon (bl s (j + 1) (m + 1)) ∧ (bl s (j + 1 + 1) m = [] → bt s ((j + 1 : Nat) : Int) ≠ 0) := Iff.rfl
    rw [e, ih (j + 1), show j + 1 + m = j + (m + 1) by omega]
    constructor
    · rintro ⟨h1, _, ⟨h3, h4, h5⟩, h6⟩
      refine ⟨fun t ht => ?_, h4, .inr ?_⟩
      · cases t with
        | zero => exact h1
        | succ t =>
          have := h3 t (by omega)
          rwa [show j + 1 + t = j + (t + 1) by omega] at this
      · rcases h5 with rfl | h5
        · exact h6 rfl
        · exact h5
    · rintro ⟨h1, h2, h3⟩
      refine ⟨h1 0 (by omega), hb.2, ⟨fun t ht => ?_, h2, ?_⟩, fun hm => ?_⟩
      · have := h1 (t + 1) (by omega)
        rwa [show j + (t + 1) = j + 1 + t by omega] at this
      · rcases h3 with h3 | h3
        · omega
        · exact .inr h3
      · have hm0 : m = 0 := by
          have := congrArg List.length hm
          rw [bl_length] at this
          exact this
        subst hm0
        rcases h3 with h3 | h3
        · omega
        · exact h3

theorem encl (f : Nat) : ∀ (n : Int) (acc : List Int), 0 ≤ n → n < 128 ^ (f + 1) → n ≤ 562949953421311 → acc.length + f < 140737488355327 →
    ∀ k, f < k → spec_EncodeVarint.l0 k n acc = some (strOfNums (acc ++ enc f n)) := by
  induction f with
  | zero =>
    intro n acc h0 h1 _ ha k hk
    obtain ⟨k, rfl⟩ : ∃ m, k = m + 1 := ⟨k - 1, by omega⟩
    have h2 : ¬ n ≥ 128 := by simpa using h1
    simp only [spec_EncodeVarint.l0, enc]
    rw [if_neg h2, if_pos (by omega), show n % 256 = n by omega]
  | succ f ih =>
    intro n acc h0 h1 hx ha k hk
    obtain ⟨k, rfl⟩ : ∃ m, k = m + 1 := ⟨k - 1, by omega⟩
    simp only [spec_EncodeVarint.l0, enc]
    by_cases h2 : n ≥ 128
    · have h3 : n / 128 < 128 ^ (f + 1) := by
        rw [Int.pow_succ] at h1
        exact Int.ediv_lt_of_lt_mul (by decide) h1
      rw [if_pos h2, if_pos (by omega), if_pos h2, td h0, tm h0, w64 (n := n / 128) (by omega) (by omega), w64 (n := 128 + n % 128) (by omega) (by omega), show (128 + n % 128) % 256 = 128 + n % 128 by omega,
        ih (n / 128) _ (by omega) h3 (by omega) (by simp; omega) k (by omega)]
      simp
    · rw [if_neg h2, if_pos (by omega), if_neg h2, show n % 256 = n by omega]
theorem encf (n : Int) (h0 : 0 ≤ n) (h1 : n < 128 ^ 7) (k : Nat) (hk : 6 < k) : spec_EncodeVarint.f k n = some (strOfNums (enc 6 n)) := by
  have e : (128 : Int) ^ 7 = 562949953421312 := by decide
  unfold spec_EncodeVarint.f spec_l1In.f
  rw [if_pos (by omega), decide_eq_true (show n ≤ 562949953421311 by omega)]
  simp only [Option.bind_some, if_true]
  rw [encl 6 n [] h0 h1 (by omega) (by simp) k hk, List.nil_append]

/-- The reference's inner loop. -/
theorem specin (s : ByteArray) (x4 : Int) (j : Nat) : ∀ (k : Nat) (n : Int) (B : Nat), j ≤ s.size → s.size ≤ 1048576 → 0 ≤ n → n < B → B * 128 ^ j ≤ 2 ^ 49 →
    spec_DecodeVarint.l1 (k + j + 1) s x4 n ((j : Int) - 1) = ((spec_EncodeVarint.f k (n * 128 ^ j + lo s 0 j)).bind fun t111 => (if 0 ≤ x4 then (if x4 ≤ (s.size : Int) then (if t111.toList = (s.extract 0 (x4 : Int).toNat).toList then (some (n * 128 ^ j + lo s 0 j, x4)) else (spec_DecodeVarint.l0 k s (wrap64 (x4 + 1)))) else (none)) else (none))) := by
  induction j with
  | zero =>
    intro k n B _ _ _ _ _
    simp only [spec_DecodeVarint.l1, lo, Nat.add_zero]
    rw [if_neg (by omega), show n * 128 ^ 0 + 0 = n by omega]
  | succ j ih =>
    intro k n B hj hs hn hB hm
    have hb := btr s j
    have hm' : (B * 128) * 128 ^ j ≤ 2 ^ 49 := by
      rw [Nat.pow_succ] at hm
      rw [Nat.mul_assoc, Nat.mul_comm 128]
      exact hm
    have hBs : B * 128 ≤ 562949953421312 := by
      have h2 : B * 128 ≤ (B * 128) * 128 ^ j := Nat.le_mul_of_pos_right _ (Nat.pow_pos (by decide))
      have h3 : (2 : Nat) ^ 49 = 562949953421312 := by decide
      omega
    have e0 : ((j + 1 : Nat) : Int) - 1 = j := by omega
    have e1 : wrap64 (n * 128) = n * 128 := w64 (by omega) (by omega)
    have e2 : wrap64 (bt s j) = bt s j := w64 (by omega) (by omega)
    have e3 : wrap64 (n * 128 + bt s j % 128) = n * 128 + bt s j % 128 := w64 (by omega) (by omega)
    have e4 : wrap64 ((j : Int) - 1) = (j : Int) - 1 := w64 (by omega) (by omega)
    rw [e0, show k + (j + 1) + 1 = (k + j + 1) + 1 by omega]
    rw [spec_DecodeVarint.l1]
    rw [if_pos (by omega), if_pos (by omega), if_pos (by omega), e2, tm hb.1, e1, e3, e4, ih k (n * 128 + bt s j % 128) (B * 128) (by omega) hs (by omega) (by omega) hm']
    have e5 : (n * 128 + bt s j % 128) * 128 ^ j + lo s 0 j = n * 128 ^ (j + 1) + lo s 0 (j + 1) := by
      rw [lo_snoc, Nat.zero_add, Int.pow_succ, Int.add_mul, Int.mul_assoc, Int.mul_comm 128 (128 ^ j)]
      omega
    rw [e5]

/-- One length tried by the reference. -/
theorem spectry (s : ByteArray) (hs : s.size ≤ 1048576) (m : Nat) (h1 : 1 ≤ m) (h7 : m ≤ 7) (hm : m ≤ s.size) (k : Nat) (hk : 6 < k) :
    spec_DecodeVarint.l0 (k + m + 3) s m = if enc 6 (lo s 0 m) = bl s 0 m then some (lo s 0 m, (m : Int)) else spec_DecodeVarint.l0 k s ((m + 1 : Nat) : Int) := by
  have hl := lo_range s m 0
  have hp : (128 : Int) ^ m ≤ 128 ^ 7 := by
    have : (128 : Nat) ^ m ≤ 128 ^ 7 := Nat.pow_le_pow_right (by decide) h7
    exact_mod_cast this
  rw [spec_DecodeVarint.l0, if_pos (by omega), decide_eq_true (show (m : Int) ≤ (s.size : Int) by omega)]
  rw [spec_DecodeVarint.j1, if_pos rfl, show wrap64 ((m : Int) - 1) = (m : Int) - 1 from w64 (by omega) (by omega)]
  rw [specin s m m k 0 1 hm hs (by omega) (by omega) (by
    have : (128 : Nat) ^ m ≤ 128 ^ 7 := Nat.pow_le_pow_right (by decide) h7
    have h2 : (128 : Nat) ^ 7 = 2 ^ 49 := by decide
    omega)]
  rw [show (0 : Int) * 128 ^ m + lo s 0 m = lo s 0 m by rw [Int.zero_mul, Int.zero_add], encf _ hl.1 (by omega) k hk]
  simp only [Option.bind_some]
  rw [if_pos (by omega), if_pos (by omega), Int.toNat_natCast, show wrap64 ((m : Int) + 1) = ((m + 1 : Nat) : Int) by rw [w64 (by omega) (by omega)]; omega]
  by_cases he : enc 6 (lo s 0 m) = bl s 0 m
  · rw [if_pos he, if_pos (by rw [he, ex_bl s m hm])]
  · rw [if_neg he, if_neg]
    intro h
    rw [tl_inj, ex_bl s m hm] at h
    exact he (sn_inj (enc_range 6 _ hl.1 (by omega)) (bl_range s m 0) h)

theorem enc_iff (s : ByteArray) (m : Nat) (h1 : 1 ≤ m) (h7 : m ≤ 7) : enc 6 (lo s 0 m) = bl s 0 m ↔ canon (bl s 0 m) := by
  have hl := lo_range s m 0
  have hp : (128 : Int) ^ m ≤ 128 ^ 7 := by
    have : (128 : Nat) ^ m ≤ 128 ^ 7 := Nat.pow_le_pow_right (by decide) h7
    exact_mod_cast this
  constructor
  · intro h
    have := (enc_canon 6 (lo s 0 m) hl.1 (by omega)).1
    rwa [h] at this
  · exact canon_enc s m 0 6 (by omega)

/-- Behind a byte that ends an encoding the reference finds no other. -/
theorem specnone (s : ByteArray) (hs : s.size ≤ 1048576) (i : Nat) (hb : bt s i < 128) (d : Nat) : ∀ (m k : Nat), i + 1 < m → m + d = 8 → 11 * d + 10 < k → spec_DecodeVarint.l0 k s m = some (0, 0) := by
  induction d with
  | zero =>
    intro m k him hd hk
    obtain ⟨k, rfl⟩ : ∃ z, k = z + 2 := ⟨k - 2, by omega⟩
    rw [spec_DecodeVarint.l0, if_neg (by omega), spec_DecodeVarint.j1, if_neg (by decide)]
  | succ d ih =>
    intro m k him hd hk
    by_cases hm : m ≤ s.size
    · obtain ⟨z, rfl⟩ : ∃ z, k = z + m + 3 := ⟨k - m - 3, by omega⟩
      rw [spectry s hs m (by omega) (by omega) hm z (by omega), if_neg]
      · exact ih (m + 1) z (by omega) (by omega) (by omega)
      · rw [enc_iff s m (by omega) (by omega)]
        obtain ⟨q, rfl⟩ : ∃ q, m = q + 1 := ⟨m - 1, by omega⟩
        rw [canon_iff]
        rintro ⟨h1, _⟩
        have := h1 i (by omega)
        rw [Nat.zero_add] at this
        omega
    · obtain ⟨k, rfl⟩ : ∃ z, k = z + 2 := ⟨k - 2, by omega⟩
      rw [spec_DecodeVarint.l0, if_pos (by omega), decide_eq_false (by omega), spec_DecodeVarint.j1, if_neg (by decide)]

theorem shl7 (b : Int) (h0 : 0 ≤ b) (h1 : b < 128) (i : Nat) (hi : i ≤ 6) : shl .i64 b (7 * (i : Int)) = b * 128 ^ i := by
  have hc : i = 0 ∨ i = 1 ∨ i = 2 ∨ i = 3 ∨ i = 4 ∨ i = 5 ∨ i = 6 := by omega
  have b64 : IntKind.bits .i64 = 64 := rfl
  unfold shl
  rw [IntKind.wrap_i64]
  rcases hc with rfl | rfl | rfl | rfl | rfl | rfl | rfl <;> simp [b64] <;> omega

theorem orlo (s : ByteArray) (i : Nat) (hi : i ≤ 6) (b : Int) (h0 : 0 ≤ b) (h1 : b < 128) : Go.bits .or .i64 (lo s 0 i) (b * 128 ^ i) = lo s 0 i + b * 128 ^ i := by
  have hl := lo_range s i 0
  have hp : (2 : Int) ^ (7 * i) = 128 ^ i := by
    rw [Int.pow_mul]
    rfl
  have hq : (128 : Int) ^ i ≤ 128 ^ 6 := by
    have : (128 : Nat) ^ i ≤ 128 ^ 6 := Nat.pow_le_pow_right (by decide) hi
    exact_mod_cast this
  have h6 : (128 : Int) ^ 6 = 4398046511104 := by decide
  have h62 : (2 : Int) ^ 62 = 4611686018427387904 := by decide
  have hpos : (0 : Int) < 128 ^ i := Int.pow_pos (by decide)
  have hb : b * 128 ^ i ≤ 127 * 128 ^ i := Int.mul_le_mul_of_nonneg_right (by omega) (by omega)
  have hb0 : 0 ≤ b * 128 ^ i := Int.mul_nonneg h0 (by omega)
  rw [or_comm64 _ _ hl.1 hb0 (by omega) (by omega), or_join (7 * i) (by omega) _ _ hb0 (by rw [hp]; exact Int.mul_emod_left _ _) (by omega) hl.1 (by rw [hp]; exact hl.2), Int.add_comm]

theorem loops (s : ByteArray) (hs : s.size ≤ 1048576) (d : Nat) : ∀ (i : Nat), i + d = 7 → (∀ t : Nat, t < i → 128 ≤ bt s t) →
    ∃ r, ∀ k, 11 * d + 40 < k → spec_DecodeVarint.l0 k s ((i + 1 : Nat) : Int) = some r ∧ impl_DecodeVarint.l0 k s (lo s 0 i) i = some r := by
  induction d with
  | zero =>
    intro i hd _
    refine ⟨(0, 0), fun k hk => ?_⟩
    obtain ⟨k, rfl⟩ : ∃ z, k = z + 2 := ⟨k - 2, by omega⟩
    constructor
    · rw [spec_DecodeVarint.l0, if_neg (by omega), spec_DecodeVarint.j1, if_neg (by decide)]
    · rw [impl_DecodeVarint.l0, decide_eq_false (by omega)]
      split <;> rw [impl_DecodeVarint.j1, if_neg (by decide)]
  | succ d ih =>
    intro i hd hall
    by_cases hi : i < s.size
    · have hb := btr s i
      have e1 : wrap64 (7 * (i : Int)) = 7 * i := w64 (by omega) (by omega)
      have e2 : wrap64 ((i : Int) + 1) = ((i + 1 : Nat) : Int) := by rw [w64 (by omega) (by omega)]; omega
      have e3 : wrap64 (bt s i % 128) = bt s i % 128 := w64 (by omega) (by omega)
      have e4 : Go.bits .or .i64 (lo s 0 i) (shl .i64 (bt s i % 128) (7 * (i : Int))) = lo s 0 (i + 1) := by
        rw [shl7 _ (by omega) (by omega) i (by omega), orlo s i (by omega) _ (by omega) (by omega), lo_snoc, Nat.zero_add]
      have himpl : ∀ k, impl_DecodeVarint.l0 (k + 2) s (lo s 0 i) i = if bt s i < 128 then (if (i : Int) > 0 then (if bt s i = 0 then some (0, 0) else some (lo s 0 (i + 1), ((i + 1 : Nat) : Int))) else some (lo s 0 (i + 1), ((i + 1 : Nat) : Int))) else impl_DecodeVarint.l0 k s (lo s 0 (i + 1)) ((i + 1 : Nat) : Int) := by
        intro k
        rw [impl_DecodeVarint.l0, if_pos (by omega), decide_eq_true (by omega), impl_DecodeVarint.j1, if_pos rfl, if_pos (by omega), if_pos (by omega), e1, if_pos (by omega), tm hb.1, e3, e4, e2]
      by_cases h128 : bt s i < 128
      · have hcan := canon_iff s i 0
        rw [Nat.zero_add] at hcan
        by_cases hz : i = 0 ∨ bt s i ≠ 0
        · have hc : canon (bl s 0 (i + 1)) := hcan.2 ⟨fun t ht => by rw [Nat.zero_add]; exact hall t ht, h128, hz⟩
          refine ⟨(lo s 0 (i + 1), ((i + 1 : Nat) : Int)), fun k hk => ⟨?_, ?_⟩⟩
          · obtain ⟨z, rfl⟩ : ∃ z, k = z + (i + 1) + 3 := ⟨k - (i + 1) - 3, by omega⟩
            rw [spectry s hs (i + 1) (by omega) (by omega) (by omega) z (by omega), if_pos ((enc_iff s (i + 1) (by omega) (by omega)).2 hc)]
          · obtain ⟨k, rfl⟩ : ∃ z, k = z + 2 := ⟨k - 2, by omega⟩
            rw [himpl, if_pos h128]
            split
            · rw [if_neg (by rcases hz with h | h <;> omega)]
            · rfl
        · refine ⟨(0, 0), fun k hk => ⟨?_, ?_⟩⟩
          · obtain ⟨z, rfl⟩ : ∃ z, k = z + (i + 1) + 3 := ⟨k - (i + 1) - 3, by omega⟩
            rw [spectry s hs (i + 1) (by omega) (by omega) (by omega) z (by omega), if_neg (fun h => hz (hcan.1 ((enc_iff s (i + 1) (by omega) (by omega)).1 h)).2.2)]
            exact specnone s hs i h128 d (i + 1 + 1) z (by omega) (by omega) (by omega)
          · obtain ⟨k, rfl⟩ : ∃ z, k = z + 2 := ⟨k - 2, by omega⟩
            have h0 : bt s i = 0 := by
              rcases Int.decEq (bt s i) 0 with h | h
              · exact absurd (.inr h) hz
              · exact h
            have hi0 : i ≠ 0 := fun h => hz (.inl h)
            rw [himpl, if_pos h128, if_pos (by omega), if_pos h0]
      · obtain ⟨r, hr⟩ := ih (i + 1) (by omega) (fun t ht => by
          by_cases e : t = i
          · subst e; omega
          · exact hall t (by omega))
        refine ⟨r, fun k hk => ⟨?_, ?_⟩⟩
        · obtain ⟨z, rfl⟩ : ∃ z, k = z + (i + 1) + 3 := ⟨k - (i + 1) - 3, by omega⟩
          rw [spectry s hs (i + 1) (by omega) (by omega) (by omega) z (by omega), if_neg]
          · exact (hr z (by omega)).1
          · rw [enc_iff s (i + 1) (by omega) (by omega), canon_iff, Nat.zero_add]
            rintro ⟨_, h2, _⟩
            exact h128 h2
        · obtain ⟨k, rfl⟩ : ∃ z, k = z + 2 := ⟨k - 2, by omega⟩
          rw [himpl, if_neg h128]
          exact (hr k (by omega)).2
    · refine ⟨(0, 0), fun k hk => ?_⟩
      obtain ⟨k, rfl⟩ : ∃ z, k = z + 2 := ⟨k - 2, by omega⟩
      constructor
      · rw [spec_DecodeVarint.l0, if_pos (by omega), decide_eq_false (by omega), spec_DecodeVarint.j1, if_neg (by decide)]
      · rw [impl_DecodeVarint.l0, if_neg (by omega), impl_DecodeVarint.j1, if_neg (by decide)]

theorem FnExactDecodeVarint : laws_FnExactDecodeVarint.Pure := by
  intro s hn
  by_cases hs : (s.size : Int) > 1048576
  · exact ⟨0, by unfold laws_FnExactDecodeVarint.f; rw [if_pos hs]⟩
  · obtain ⟨r, hr⟩ := loops s (by omega) 7 0 (by omega) (fun t ht => by omega)
    obtain ⟨h1, h2⟩ := hr 200 (by omega)
    refine ⟨200, ?_⟩
    have h1' : spec_DecodeVarint.l0 200 s 1 = some r := h1
    have h2' : impl_DecodeVarint.l0 200 s 0 0 = some r := h2
    unfold laws_FnExactDecodeVarint.f spec_DecodeVarint.f impl_DecodeVarint.f
    rw [if_neg hs, h1', h2']
    simp

end Go.Proofs.Ytkdkibdigfglhaa.Pure
