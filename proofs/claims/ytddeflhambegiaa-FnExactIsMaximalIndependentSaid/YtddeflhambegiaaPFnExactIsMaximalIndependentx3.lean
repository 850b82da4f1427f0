-- Laid by a program of this claim: what the functions come to, some of them proved by hand.
import Derived.Test.YtddeflhambegiaaPFnExactIsMaximalIndependentx0
import Derived.Test.YtddeflhambegiaaPFnExactIsMaximalIndependentx1
import Derived.Test.YtddeflhambegiaaPFnExactIsMaximalIndependentx2
namespace Go.Proofs.Ytddeflhambegiaa.PFnExactIsMaximalIndependent
open Go.RowKit Go.Proofs.YtddeflhambegiaaW.PrintWords Go.Proofs.YtddeflhambegiaaW.PrintLast Go.Proofs.YtddeflhambegiaaW.PrintMore
attribute [local go_sem] max2_int min2_int max_two min_two max_three min_three max_four min_four   -- for this text's walks alone
set_option linter.unusedVariables false
set_option linter.unusedSimpArgs false

/-! ### laws_eqIntS: function 31 -/
def laws_eqIntS.l0 : Nat → List Int → List Int → Int → Option (Bool)
 | 0, _, _, _ => none
 | k + 1, x0, x1, x5 => if x5 < (x0.length : Int) then (if 0 ≤ x5 then (if x5 < (x1.length : Int) then (if (rd x0 x5) = (rd x1 x5) then (laws_eqIntS.l0 k x0 x1 (wrap64 (x5 + 1))) else (some false)) else (none)) else (none)) else (some true)
def laws_eqIntS.f (k : Nat) (l0 : List Int) (l1 : List Int) : Option (Bool) := if (l0.length : Int) = (l1.length : Int) then (laws_eqIntS.l0 k l0 l1 0) else (some false)
set_option maxHeartbeats 8000000 in
set_option maxRecDepth 100000 in
theorem laws_eqIntS.calls (k : Nat) (A0 : Option Addr) (c0 : Nat) (l0 : List Int) (A1 : Option Addr) (c1 : Nat) (l1 : List Int) (r : Bool) (w : World) (hr0 : Kd.C (Kd.int .i64) w A0 l0.length l0) (hc0 : l0.length ≤ c0) (hr1 : Kd.C (Kd.int .i64) w A1 l1.length l1) (hc1 : l1.length ≤ c1) (h : laws_eqIntS.f k l0 l1 = some r) :
  Calls Try.prog 31 #[.slice A0 l0.length c0, .slice A1 l1.length c1] w fun e w' => e = .returned (.bool r) ∧ Drawn0 w w' := by
 have rg_ := @bcl w
 have rd_ := @bdr w
 unfold laws_eqIntS.f at h
 replace h := iq h; rcases h with ⟨c0, ⟨c0a, c0b⟩, h⟩ | ⟨c0, ⟨c0a, c0b⟩, h⟩
 have cz := c0.out
 have c0x1 : (l0.length == l1.length) = true := by first | simpa using cz | (simp at cz ⊢; omega)
 clear cz
 ·go_enter Try.func31, Try.ntmps31
  go_wp2
  (repeat ((refine nw (w0 := w) zB ?_; intro W1 HB hb hd; (first | (refine Txt.rg (id := 6) [0, 1, 2, 3, 4, 5, 6, 7, 8] (by kernel_rfl) (by kernel_rfl) ?_; simp only [List.map_cons, List.map_nil, List.getD_cons_zero, List.getD_cons_succ])); (repeat (first | (refine Txt.off rfl ?_; simp only [Act.put, List.setIfInBounds_toArray, List.set_cons_zero, List.set_cons_succ]) | (refine Txt.take rfl rfl ?_; intro K hK; go_big_quiet_op; go_big_quiet_on))); refine Txt.nil ?_); (try go_wp2)))
  go_loopg [5] k (fun kq v5 w' => ∃ (x5_1 : Int), v5 = .int .i64 x5_1 ∧ laws_eqIntS.l0 kq l0 l1 x5_1 = some r ∧ Drawn0 w w')
  case atStart => exact ⟨_, zR, zA, zD⟩
  case round =>
   clear h
   obtain ⟨x5_1, rfl, h, hb⟩ := hrel
   have hd := hb
   replace hb := hb.below
   replace hb := aM hb
   have HB : Below w.heap.size w wr := zB
   rcases gk with _ | kk1
   exact absurd h (by simp [laws_eqIntS.l0])
   simp only [laws_eqIntS.l0] at h
   replace h := il h; rcases h with ⟨c2, c2a, h⟩ | ⟨c2, c2a, h⟩
   replace h := ie h; rcases h with ⟨c3, c3a, h⟩ | ⟨c3, c3a, h⟩
   replace h := il h; rcases h with ⟨c4, c4a, h⟩ | ⟨c4, c4a, h⟩
   replace h := iq h; rcases h with ⟨c5, ⟨c5a, c5b⟩, h⟩ | ⟨c5, ⟨c5a, c5b⟩, h⟩
   obtain ⟨kf, hkf⟩ : ∃ kf, kf = kk1 := ⟨_, rfl⟩; rw [← hkf] at h
   obtain ⟨ad186, e186, hx186_0⟩ := Kd.at_int hr0 (x5_1 : Int) aD aD
   have p186 := eq_true (aD : 0 ≤ (x5_1 : Int))
   have q186 := eq_true (aD : x5_1 < (l0.length : Int))
   cases e186
   replace hx186_0 := qa hx186_0
   obtain ⟨ad187, e187, hx187_0⟩ := Kd.at_int hr1 (x5_1 : Int) aD aD
   have p187 := eq_true (aD : 0 ≤ (x5_1 : Int))
   have q187 := eq_true (aD : x5_1 < (l1.length : Int))
   cases e187
   replace hx187_0 := qa hx187_0
   rotate_left
   obtain rfl := si h
   obtain ⟨ad186, e186, hx186_0⟩ := Kd.at_int hr0 (x5_1 : Int) aD aD
   have p186 := eq_true (aD : 0 ≤ (x5_1 : Int))
   have q186 := eq_true (aD : x5_1 < (l0.length : Int))
   cases e186
   replace hx186_0 := qa hx186_0
   obtain ⟨ad187, e187, hx187_0⟩ := Kd.at_int hr1 (x5_1 : Int) aD aD
   have p187 := eq_true (aD : 0 ≤ (x5_1 : Int))
   have q187 := eq_true (aD : x5_1 < (l1.length : Int))
   cases e187
   replace hx187_0 := qa hx187_0
   rotate_left
   exact absurd h (by simp)
   exact absurd h (by simp)
   obtain rfl := si h
   rotate_left
   all_goals (go_wp2; (repeat ((refine nw (w0 := w) zB ?_; intro W1 HB hb hd; (first | (refine Txt.rg (id := 6) [0, 1, 2, 3, 4, 5, 6, 7, 8] (by kernel_rfl) (by kernel_rfl) ?_; simp only [List.map_cons, List.map_nil, List.getD_cons_zero, List.getD_cons_succ])); (repeat (first | (refine Txt.off rfl ?_; simp only [Act.put, List.setIfInBounds_toArray, List.set_cons_zero, List.set_cons_succ]) | (refine Txt.take rfl rfl ?_; intro K hK; go_big_quiet_op; go_big_quiet_on))); refine Txt.nil ?_); (try go_wp2))); first | (go_ret; exact zE zD) | (go_roundg kf; (case measure => omega); (case rel => exact ⟨_, zR, zA, zD⟩)))
 have cz := c0.out
 have c0x1 : (l0.length == l1.length) = false := by first | simpa using cz | (simp at cz ⊢; omega)
 clear cz
 obtain rfl := si h
 rotate_left
 all_goals (go_enter Try.func31, Try.ntmps31; go_wp2; (repeat ((refine nw (w0 := w) zB ?_; intro W1 HB hb hd; (first | (refine Txt.rg (id := 6) [0, 1, 2, 3, 4, 5, 6, 7, 8] (by kernel_rfl) (by kernel_rfl) ?_; simp only [List.map_cons, List.map_nil, List.getD_cons_zero, List.getD_cons_succ])); (repeat (first | (refine Txt.off rfl ?_; simp only [Act.put, List.setIfInBounds_toArray, List.set_cons_zero, List.set_cons_succ]) | (refine Txt.take rfl rfl ?_; intro K hK; go_big_quiet_op; go_big_quiet_on))); refine Txt.nil ?_); (try go_wp2))); go_ret; exact zE zD)

/-! ### laws_FnExactIsMaximalIndependent: function 5 -/
def laws_FnExactIsMaximalIndependent.f (k : Nat) (a0 : Int) (l1 : List (S91)) (l2 : List Int) : Option (Bool) := if (l2.length : Int) > 1048576 then (some true) else ((laws_szConflictEdgeS.f l1 1048576).bind fun t188 => (if t188 < 0 then (some true) else ((laws_toConflictEdgeS.f k l1).bind fun t189 => ((laws_toIntS.f k l2).bind fun t192 => ((spec_IsMaximalIndependent.f k a0 t189 t192).bind fun t195 => ((laws_toConflictEdgeS.f k l1).bind fun t196 => ((laws_toIntS.f k l2).bind fun t199 => ((impl_IsMaximalIndependent.f k a0 t196 t199).bind fun t202 => (if (t202 != t195) = true then (some false) else ((laws_toConflictEdgeS.f k l1).bind fun t203 => ((laws_eqConflictEdgeS.f k t196 t203).bind fun t206 => (if t206 = true then ((laws_toIntS.f k l2).bind fun t207 => ((laws_eqIntS.f k t199 t207).bind fun t210 => (if t210 = true then (some true) else (some false)))) else (some false)))))))))))))
set_option maxHeartbeats 8000000 in
set_option maxRecDepth 100000 in
theorem laws_FnExactIsMaximalIndependent.calls (k : Nat) (a0 : Int) (A1 : Option Addr) (c1 : Nat) (l1 : List (S91)) (A2 : Option Addr) (c2 : Nat) (l2 : List Int) (r : Bool) (w : World) (hr1 : Kd.C k91 w A1 l1.length l1) (hc1 : l1.length ≤ c1) (hr2 : Kd.C (Kd.int .i64) w A2 l2.length l2) (hc2 : l2.length ≤ c2) (h : laws_FnExactIsMaximalIndependent.f k a0 l1 l2 = some r) (hr_ : r = true) :
  Calls Try.prog 5 #[.int .i64 a0, .slice A1 l1.length c1, .slice A2 l2.length c2] w fun e w' => e = .returned (.bool r) ∧ Below w.heap.size w w' := by
 have HRT_ := aM hr_
 clear hr_
 unfold laws_FnExactIsMaximalIndependent.f at h
 replace h := ig h; rcases h with ⟨c0, c0a, h⟩ | ⟨c0, c0a, h⟩
 have cz := c0.out
 have c0x1 : decide (1048576 < l2.length) = true := decide_eq_true (by omega)
 clear cz
 obtain rfl := si h
 rotate_left
 have cz := c0.out
 have c0x1 : decide (1048576 < l2.length) = false := decide_eq_false (by omega)
 clear cz
 replace h := bs h; obtain ⟨t188, B1, h⟩ := h
 replace h := il h; rcases h with ⟨c2, c2a, h⟩ | ⟨c2, c2a, h⟩
 obtain rfl := si h
 rotate_left
 replace h := bs h; obtain ⟨t189, B3, h⟩ := h
 replace h := bs h; obtain ⟨t192, B4, h⟩ := h
 replace h := bs h; obtain ⟨t195, B5, h⟩ := h
 replace h := bs h; obtain ⟨t196, B6, h⟩ := h
 have eq_ := Option.some.inj (B3.symm.trans B6)
 subst eq_
 replace h := bs h; obtain ⟨t199, B7, h⟩ := h
 have eq_ := Option.some.inj (B4.symm.trans B7)
 subst eq_
 replace h := bs h; obtain ⟨t202, B8, h⟩ := h
 replace h := ib h; rcases h with ⟨c9, h⟩ | ⟨c9, h⟩
 have c9x0 : (!t202 == t195) = true := c9
 obtain rfl := si h
 rotate_left
 have c9x0 : (!t202 == t195) = false := c9
 replace h := bs h; obtain ⟨t203, B10, h⟩ := h
 have eq_ := Option.some.inj (B3.symm.trans B10)
 subst eq_
 replace h := bs h; obtain ⟨t206, B11, h⟩ := h
 replace h := ib h; rcases h with ⟨rfl, h⟩ | ⟨rfl, h⟩
 replace h := bs h; obtain ⟨t207, B13, h⟩ := h
 have eq_ := Option.some.inj (B4.symm.trans B13)
 subst eq_
 replace h := bs h; obtain ⟨t210, B14, h⟩ := h
 replace h := ib h; rcases h with ⟨rfl, h⟩ | ⟨rfl, h⟩
 obtain rfl := si h
 rotate_left
 obtain rfl := si h
 rotate_left
 obtain rfl := si h
 rotate_left
 all_goals (go_enter Try.func5, Try.ntmps5; go_wp2_with (first | (go_at_call 25; refine (laws_szConflictEdgeS.calls _ _ _ _ ?_ _ ?_ ?_ ?h).mono ?_; (case h => exact zA); (iterate 2 (first | exact zC | exact zA)); rintro e w1 ⟨rfl, hb⟩; replace hb := hb.below; replace hb := aM hb; have HB : Below w.heap.size w w1 := zB) | (go_at_call 27; refine (laws_toConflictEdgeS.calls ?_ _ _ _ ?_ _ ?_ ?_ ?h).mono ?_; (case h => exact zA); (iterate 2 (first | exact zC | exact zA)); rintro e w1 ⟨v0, rfl, ho0, hb⟩; obtain ⟨A0, c0, rfl, hc0, hC0⟩ := Kd.R_reads ho0; replace hb := aM hb; have HB : Below w.heap.size w w1 := zB) | (go_at_call 28; refine (laws_toIntS.calls ?_ _ _ _ ?_ _ ?_ ?_ ?h).mono ?_; (case h => exact zA); (iterate 2 (first | exact zC | exact zA)); rintro e w1 ⟨v0, rfl, ho0, hb⟩; obtain ⟨A0, c0, rfl, hc0, hC0⟩ := Kd.R_reads ho0; replace hb := aM hb; have HB : Below w.heap.size w w1 := zB) | (go_at_call 26; refine (spec_IsMaximalIndependent.calls ?_ _ _ _ _ _ _ _ ?_ _ ?_ ?_ ?_ ?_ ?h).mono ?_; (case h => exact zA); (iterate 4 (first | exact zC | exact zA)); rintro e w1 ⟨rfl, hb⟩; replace hb := aM hb; have HB : Below w.heap.size w w1 := zB) | (go_at_call 29; refine (impl_IsMaximalIndependent.calls ?_ _ _ _ _ _ _ _ ?_ _ ?_ ?_ ?_ ?_ ?h).mono ?_; (case h => exact zA); (iterate 4 (first | exact zC | exact zA)); rintro e w1 ⟨rfl, hb⟩; replace hb := aM hb; have HB : Below w.heap.size w w1 := zB) | (go_at_call 30; refine (laws_eqConflictEdgeS.calls ?_ _ _ _ _ _ _ ?_ _ ?_ ?_ ?_ ?_ ?h).mono ?_; (case h => exact zA); (iterate 4 (first | exact zC | exact zA)); rintro e w1 ⟨rfl, hb⟩; replace hb := aM hb; have HB : Below w.heap.size w w1 := zB) | (go_at_call 31; refine (laws_eqIntS.calls ?_ _ _ _ _ _ _ ?_ _ ?_ ?_ ?_ ?_ ?h).mono ?_; (case h => exact zA); (iterate 4 (first | exact zC | exact zA)); rintro e w1 ⟨rfl, hb⟩; replace hb := hb.below; replace hb := aM hb; have HB : Below w.heap.size w w1 := zB)); go_ret; exact zE zB)

end Go.Proofs.Ytddeflhambegiaa.PFnExactIsMaximalIndependent
