-- Laid by a program of this claim: what the functions come to, some of them proved by hand.
import Derived.Test.YteddnlklfjpgoaaPFnExactInsertFactx0
import Derived.Test.YteddnlklfjpgoaaPFnExactInsertFactx2
namespace Go.Proofs.Yteddnlklfjpgoaa.PFnExactInsertFact
open Go.RowKit Go.Proofs.YteddnlklfjpgoaaW.PrintWords Go.Proofs.YteddnlklfjpgoaaW.PrintLast Go.Proofs.YteddnlklfjpgoaaW.PrintMore
attribute [local go_sem] max2_int min2_int max_two min_two max_three min_three max_four min_four   -- for this text's walks alone
set_option linter.unusedVariables false
set_option linter.unusedSimpArgs false

/-! ### laws_markFactS: function 42 -/
def laws_markFactS.l0 : Nat → List S45 → Int → Int → Option (Int × List S45)
 | 0, _, _, _ => none
 | k + 1, x0, x1, x5 => if x5 < (x0.length : Int) then (if 0 ≤ x5 then ((laws_markIntS.f k (rd_T45 x0 x5).f1 (wrap64 (x1 + 1))).bind fun bt => laws_markFactS.l0 k (x0.set (x5 : Int).toNat (⟨x1, bt.2⟩ : S45)) bt.1 (wrap64 (x5 + 1))) else none) else some (x1, x0)
def laws_markFactS.f (k : Nat) (l0 : List S45) (a1 : Int) : Option (Int × List S45) := laws_markFactS.l0 k l0 a1 0
set_option maxHeartbeats 8000000 in
set_option maxRecDepth 100000 in
theorem laws_markFactS.calls (k : Nat) (P0_ : Nat → Prop) (u9000_ : Value) (l0 : List S45) (a1 : Int) (r1 : Int) (r2 : List S45) (w0 w : World) (hB : Below w0.heap.size w0 w) (ho0 : Kd.S k45 45 w w0.heap.size P0_ u9000_ l0) (h : laws_markFactS.f k l0 a1 = some (r1, r2)) :
  Calls Try.prog 42 #[u9000_, .int .i64 a1] w fun e w' => e = .returned (.int .i64 r1) ∧ Kd.S k45 45 w' w0.heap.size (fun k_ => (P0_ k_ ∨ w.heap.size ≤ k_)) u9000_ r2 ∧ Below w0.heap.size w0 w' ∧ Kept w w' (fun k_ => P0_ k_) := by
 have HO0 := aM (show Kd.S k45 45 w w0.heap.size (fun k_ => (P0_ k_ ∨ w.heap.size ≤ k_)) u9000_ l0 from Kd.S_mono ho0 (fun k_ hk => (.inl hk)))
 have HK := aM (Kept.refl w (fun k_ => P0_ k_))
 have HW0 := aM hB.size
 have HB := aM hB
 clear hB ho0
 have H' : Aside0 (laws_markFactS.l0 k l0 a1 0 = some (r1, r2)) := ⟨h⟩
 clear h
 go_enter Try.func42, Try.ntmps42
 go_wp2
 go_loopg [1, 5] k (fun kq v1 v5 w' => ∃ (x0 : List S45) (x1 x5 : Int), v1 = .int .i64 x1 ∧ v5 = .int .i64 x5 ∧ Aside0 (laws_markFactS.l0 kq x0 x1 x5 = some (r1, r2)) ∧ Aside0 (kq ≤ k) ∧ Aside0 (Kd.S k45 45 w' w0.heap.size (fun k_ => (P0_ k_ ∨ w.heap.size ≤ k_)) u9000_ x0) ∧ Aside0 (Kept w w' (fun k_ => P0_ k_)) ∧ Aside0 (Below w0.heap.size w0 w'))
 case atStart => exact ⟨l0, a1, 0, rfl, rfl, H', ⟨Nat.le_refl _⟩, HO0, HK, HB⟩
 case round =>
  clear H' HO0
  obtain ⟨x0, x1, x5, rfl, rfl, HA, HK1, HO, HKw, HBw⟩ := hrel
  clear HK HB
  cases gk with
  | zero => exact absurd HA.out (by simp [laws_markFactS.l0])
  | succ k1 =>
   have H := HA.out
   clear HA
   simp only [laws_markFactS.l0] at H
   by_cases c3 : x5 < (x0.length : Int)
   ·rw [if_pos c3] at H
    by_cases c4 : 0 ≤ x5
    ·rw [if_pos c4] at H
     obtain ⟨⟨t1, t2⟩, hm, H⟩ := Option.bind_eq_some_iff.mp H
     have H' := aM H
     have HM := aM hm
     clear H hm
     have c3b : decide (x5 < (x0.length : Int)) = true := decide_eq_true c3
     have c4b : decide (0 ≤ x5) = true := decide_eq_true c4
     obtain ⟨go, co, eo, gb, gl, cl, HG⟩ := Kd.S_form HO.out (by omega)
     subst eo
     have hmine : P0_ go ∨ w.heap.size ≤ go := (Kd.S_R HO.out).1 _ rfl
     obtain ⟨oki, c, hcl, hM, hcc, hfr, hoki, hH⟩ := Kd.S_elem HO.out z45 x5 c4 c3
     obtain ⟨ve, rfl, hR⟩ := k45_openM hM
     have hcell : wr.cell? ⟨go, x5.toNat * 2, none⟩ = some (.int .i64 (x0.getD x5.toNat z45).f0) := hcc 0 _ rfl
     have hfz : wr.frozen? ⟨go, x5.toNat * 2, none⟩ = false := hfr 0
     have HP := Kd.S_seg0 hH c4 c3 (seg := [.int .i64 x1]) (j := 0) (show 1 ≤ 2 by decide) (x' := (⟨x1, (x0.getD x5.toNat z45).f1⟩ : S45)) (k45_mkM _ _ _ (⟨x1, (x0.getD x5.toNat z45).f1⟩ : S45) hR) (fun _ hk => hk)
     have hB1 : Below w0.heap.size w0 (wr.setCell ⟨go, x5.toNat * 2, none⟩ (.int .i64 x1)) := below_set HBw.out gb
     have hK1 : Kept w (wr.setCell ⟨go, x5.toNat * 2, none⟩ (.int .i64 x1)) (fun k_ => P0_ k_) := Kept.setCell HKw.out hmine _
     have hS1 : Kd.S k45 45 (wr.setCell ⟨go, x5.toNat * 2, none⟩ (.int .i64 x1)) w0.heap.size (fun k_ => (P0_ k_ ∨ w.heap.size ≤ k_)) (.slice (some ⟨go, 0, none⟩) x0.length co) (x0.set x5.toNat (⟨x1, (x0.getD x5.toNat z45).f1⟩ : S45)) := HP.1
     obtain ⟨oki2, cc2, hcl2, hM2, hcc2, hfr2, hoki2, hH2⟩ := Kd.S_elem hS1 z45 x5 c4 c3
     have hset : (x0.set x5.toNat (⟨x1, (x0.getD x5.toNat z45).f1⟩ : S45)).getD x5.toNat z45 = ⟨x1, (x0.getD x5.toNat z45).f1⟩ := by
      rw [List.getD_eq_getElem?_getD, List.getElem?_set_self (by omega)]; rfl
     rw [hset] at hM2
     obtain ⟨ve2, rfl, hR2⟩ := k45_openM hM2
     obtain ⟨Ai, ci, rfl⟩ := Kd.R_slice hR2
     have hc2 := hcc2 1 _ rfl
     have HC := aM (laws_markIntS.calls k1 oki2 _ _ (wrap64 (x1 + 1)) t1 t2 w0 _ hB1 hR2 HM.out)
     have p5 := eq_true c4
     have q5 := eq_true c3
     have HS1 := aM hS1
     have HH2 := aM hH2
     have HO2 := aM hoki2
     have HB1 := aM hB1
     have HK1' := aM hK1
     have HC2 := aM hc2
     clear hS1 hH2 hoki2 hB1 hK1 hH HP hcc hcc2 hfr hfr2 hoki hM hM2 hR hR2 hc2
     obtain ⟨fl, hfl⟩ : ∃ fl, fl = (x0.getD x5.toNat z45).f1 := ⟨_, rfl⟩
     rw [← hfl] at HC2 HC HH2
     clear hfl hset HS1 hcl hcl2
     go_wp2_with (first | ((with_reducible refine gate_store (t := 3) (p := 16) rfl ?_); refine store_event (t := 3) (p := 16) (v := ?vo) (w1 := wr.setCell ⟨go, x5.toNat * 2, none⟩ (.int .i64 x1)) ?hg ?ho ?hn ?hr ?_; (case ho => rfl); (case hg => rfl); (case hn => rfl); (case hr => first | (go_simp; done) | (go_simp; rfl)); intro w13 hw; rw [← hw] at HC2 HC HH2 HB1 HK1'; clear hw; have hc2 : w13.cell? ⟨go, x5.toNat * 2 + 1, none⟩ = some (.slice Ai fl.length ci) := HC2.out) | (go_at_call 15; refine HC.out.mono ?_; rintro e w2 ⟨rfl, hR3, hB3, hK3⟩))
     have hsz : w.heap.size ≤ w13.heap.size := HK1'.out.1
     have hS3 := Kd.H_back (Kd.H_step (Kd.H_widen HH2.out) (fun k _ hn hlt => hK3.2 k hlt (fun ho => hn (.inl ho)))) (k45_mkM _ _ _ (⟨x1, t2⟩ : S45) hR3) (fun k hk => hk.elim .inl (fun h2 => .inr ⟨.inr (Nat.le_trans hsz h2), h2⟩))
     rw [List.set_set] at hS3
     have HS3 := aM hS3
     have HK3 := aM (Kept.then_ HK1'.out hK3 (fun k h2 => (HO2.out k h2).1))
     have HB3 := aM hB3
     clear hS3 hR3 hK3 hB3 hc2 HC2 HC HH2 HB1 HK1' hsz
     go_roundg k1
     case measure => exact Nat.lt_succ_self _
     case rel => exact ⟨_, _, _, rfl, by first | rfl | (simp; done) | (simp [*]; done), H', ⟨by have := HK1.out; omega⟩, HS3, HK3, HB3⟩
    ·rw [if_neg c4] at H
     exact absurd H (by simp)
   ·rw [if_neg c3] at H
    have c3b : decide (x5 < (x0.length : Int)) = false := decide_eq_false c3
    clear c3
    simp only [Option.some.injEq, Prod.mk.injEq] at H
    obtain ⟨rfl, rfl⟩ := H
    obtain ⟨Ao, co, eo⟩ := Kd.S_slice HO.out
    subst eo
    go_wp2
    go_ret
    exact ⟨rfl, HO.out, HBw.out, HKw.out⟩


/-! ### laws_markDatabase: function 14 -/
def laws_markDatabase.f (k : Nat) (l0 : List S74) (l1 : List S45) (a1 : Int) : Option (Int × List S74 × List S45) := (laws_markRelationS.f k l0 a1).bind fun x => (laws_markFactS.f k l1 x.1).bind fun y => some (y.1, x.2, y.2)
set_option maxHeartbeats 4000000 in
set_option maxRecDepth 100000 in
theorem laws_markDatabase.calls (k : Nat) (P0_ P1_ : Nat → Prop) (u0 u1 : Value) (l0 : List S74) (l1 : List S45) (a1 r1 : Int) (r2 : List S74) (r3 : List S45) (w0 w : World) (hB : Below w0.heap.size w0 w) (ho0 : Kd.R k74 74 w w0.heap.size P0_ u0 l0) (ho1 : Kd.S k45 45 w w0.heap.size P1_ u1 l1) (hp : ∀ k_, P0_ k_ → ¬ P1_ k_) (h : laws_markDatabase.f k l0 l1 a1 = some (r1, r2, r3)) :
  Calls Try.prog 14 #[.agg #[u0, u1], .int .i64 a1] w fun e w' => e = .returned (.int .i64 r1) ∧ Kd.R k74 74 w' w0.heap.size (fun k_ => (P0_ k_ ∨ w.heap.size ≤ k_)) u0 r2 ∧ Kd.S k45 45 w' w0.heap.size (fun k_ => (P1_ k_ ∨ w.heap.size ≤ k_)) u1 r3 ∧ Below w0.heap.size w0 w' ∧ Kept w w' (fun k_ => P0_ k_ ∨ P1_ k_) := by
 obtain ⟨⟨t1, t2⟩, h1, h⟩ := Option.bind_eq_some_iff.mp h
 obtain ⟨⟨t3, t4⟩, h2, h⟩ := Option.bind_eq_some_iff.mp h
 simp only [Option.some.injEq, Prod.mk.injEq] at h
 obtain ⟨rfl, rfl, rfl⟩ := h
 have hu := Try.underlying31
 obtain ⟨A0, c0, rfl⟩ := Kd.R_slice ho0
 obtain ⟨A1, c1, rfl⟩ := Kd.S_slice ho1
 have hs : ∀ o : Obj, w.heap.size < (w.alloc o).heap.size := fun o => by show _ < (Array.push _ _).size; rw [Array.size_push]; exact Nat.lt_succ_self _
 have hr := Kd.R_mono (Kd.R_bound ho0) (ok' := fun k_ => P0_ k_ ∧ k_ < w.heap.size) (fun _ hk => ⟨hk.1, hk.2.2.1⟩)
 have hf := Kd.S_mono (Kd.S_bound ho1) (ok' := fun k_ => P1_ k_ ∧ k_ < w.heap.size) (fun _ hk => ⟨hk.1, hk.2.2.1⟩)
 obtain ⟨W, hW⟩ : ∃ W, w.alloc (.cells #[.slice A0 l0.length c0, .slice A1 l1.length c1] 31) = W := ⟨_, rfl⟩
 have hBW : Below w0.heap.size w0 W := by subst hW; exact below_alloc hB _
 have hKW : Kept w W (fun k_ => P0_ k_ ∨ P1_ k_) := by subst hW; exact Kept.alloc (Kept.refl _ _) _
 have hrW := show Kd.R k74 74 W w0.heap.size (fun k_ => P0_ k_ ∧ k_ < w.heap.size) (.slice A0 l0.length c0) l0 by subst hW; exact Kd.R_alloc hr _
 have hfW := show Kd.S k45 45 W w0.heap.size (fun k_ => P1_ k_ ∧ k_ < w.heap.size) (.slice A1 l1.length c1) l1 by subst hW; exact Kd.S_alloc hf _
 have hg : W.heap[w.heap.size]? = some (.cells #[.slice A0 l0.length c0, .slice A1 l1.length c1] 31 (0, 0)) := by subst hW; exact heap_alloc_new w _
 have HC1 := aM (laws_markRelationS.calls k _ _ _ a1 t1 t2 w0 W hBW hrW h1)
 have HG := aM hg
 have HF := aM hfW
 have HP := aM hp
 have HKW := aM hKW
 have H2 := aM h2
 have hc0 : W.cell? ⟨w.heap.size, 0, none⟩ = some (.slice A0 l0.length c0) := (blk_cell hg 0).trans rfl
 have hsz : w.heap.size < W.heap.size := by subst hW; exact hs _
 clear hs hr hf hBW hKW hrW hfW hg ho0 ho1 hp h1 h2
 go_enter Try.func14, Try.ntmps14
 go_wp2_with (first | (go_at_call 41; refine HC1.out.mono ?_; rintro e w1 ⟨rfl, hR1, hB1, hK1⟩; have hg1 := blk_kept HG.out hK1 (fun hk => Nat.lt_irrefl _ hk.2); have hc1 : w1.cell? ⟨w.heap.size, 1, none⟩ = some (.slice A1 l1.length c1) := (blk_cell hg1 1).trans rfl; have hS1 := Kd.S_kept HF.out hK1 (fun k_ hk hk2 => HP.out k_ hk2.1 hk.1); have HC2 := aM (laws_markFactS.calls k _ _ _ t1 t3 t4 w0 w1 hB1 hS1 H2.out); have HR1 := aM hR1; have HK1 := aM hK1; clear hR1 hB1 hK1 hS1 hg1) | (go_at_call 42; refine HC2.out.mono ?_; rintro e w2 ⟨rfl, hS2, hB2, hK2⟩))
 go_ret
 refine ⟨rfl, ?_, ?_, hB2, ?_⟩
 ·exact Kd.R_mono (Kd.R_kept HR1.out hK2 (fun k_ hk hk2 => hk.elim (fun h => HP.out k_ h.1 hk2.1) (fun h => by have := hk2.2; omega))) (fun k_ hk => hk.elim (fun h => .inl h.1) (fun h => .inr (by omega)))
 ·have hz := HK1.out.1
  exact Kd.S_mono hS2 (fun k_ hk => hk.elim (fun h => .inl h.1) (fun h => .inr (by omega)))
 ·exact Kept.then_ (Kept.then_ HKW.out HK1.out (fun k_ hk => .inl (.inl hk.1))) hK2 (fun k_ hk => .inl (.inr hk.1))


/-! ### laws_heldRelationS: function 43 -/
def laws_heldRelationS.l0 : Nat → List (S74) → Int → Int → Option (Int)
 | 0, _, _, _ => none
 | k + 1, x0, x1, x5 => if x5 < (x0.length : Int) then (if 0 ≤ x5 then ((laws_markText.f k x1).bind fun t177 => (if ((rd_T74 x0 x5).f0).toList = t177.toList then (if ((rd_T74 x0 x5).f1) = (wrap64 (x1 + 1)) then (if ((rd_T74 x0 x5).f2) = (wrap64 ((wrap64 (x1 + 1)) + 1)) then (laws_heldRelationS.l0 k x0 (wrap64 ((wrap64 ((wrap64 (x1 + 1)) + 1)) + 1)) (wrap64 (x5 + 1))) else (some (-1))) else (some (-1))) else (some (-1)))) else (none)) else (some x1)
def laws_heldRelationS.f (k : Nat) (l0 : List (S74)) (a1 : Int) : Option (Int) := laws_heldRelationS.l0 k l0 a1 0
set_option maxHeartbeats 8000000 in
set_option maxRecDepth 100000 in
theorem laws_heldRelationS.calls (k : Nat) (A0 : Option Addr) (c0 : Nat) (l0 : List (S74)) (a1 : Int) (r : Int) (w : World) (hr0 : Kd.C k74 w A0 l0.length l0) (hc0 : l0.length ≤ c0) (h : laws_heldRelationS.f k l0 a1 = some r) :
  Calls Try.prog 43 #[.slice A0 l0.length c0, .int .i64 a1] w fun e w' => e = .returned (.int .i64 r) ∧ Below w.heap.size w w' := by
 have rg_ := @bcl w
 have rd_ := @bdr w
 unfold laws_heldRelationS.f at h
 ·go_enter Try.func43, Try.ntmps43
  go_wp2
  (repeat ((refine nw (w0 := w) zB ?_; intro W1 HB hb hd; (first | (refine Txt.rg (id := 4) [0, 1, 2, 3, 4, 5, 6, 7] (by kernel_rfl) (by kernel_rfl) ?_; simp only [List.map_cons, List.map_nil, List.getD_cons_zero, List.getD_cons_succ])); (repeat (first | (refine Txt.off rfl ?_; simp only [Act.put, List.setIfInBounds_toArray, List.set_cons_zero, List.set_cons_succ]) | (refine Txt.take rfl rfl ?_; intro K hK; go_big_quiet_op; go_big_quiet_on) | (refine Txt.call rfl rfl Try.func65 (by kernel_rfl) rfl (laws_markText.calls ?_ _ ?_ _ ?h) rfl ?_; (case h => exact zA); rintro e w1 ⟨rfl, hb⟩; replace hb := aM hb; have HB : Below w.heap.size w w1 := zB; refine ⟨_, rfl, zS, ?_⟩; simp only [Act.put, List.setIfInBounds_toArray, List.set_cons_zero, List.set_cons_succ]))); refine Txt.nil ?_); (try go_wp2)))
  go_loopg [1, 5] k (fun kq v1 v5 w' => ∃ (x1_0 : Int) (x5_0 : Int), v1 = .int .i64 x1_0 ∧ v5 = .int .i64 x5_0 ∧ laws_heldRelationS.l0 kq l0 x1_0 x5_0 = some r ∧ Below w.heap.size w w')
  case atStart => exact ⟨_, _, zR, zR, zA, zB⟩
  case round =>
   clear h
   obtain ⟨x1_0, x5_0, rfl, rfl, h, hb⟩ := hrel
   replace hb := aM hb
   have HB : Below w.heap.size w wr := zB
   rcases gk with _ | kk0
   exact absurd h (by simp [laws_heldRelationS.l0])
   simp only [laws_heldRelationS.l0] at h
   replace h := il h; rcases h with ⟨c1, c1a, h⟩ | ⟨c1, c1a, h⟩
   replace h := ie h; rcases h with ⟨c2, c2a, h⟩ | ⟨c2, c2a, h⟩
   replace h := bs h; obtain ⟨t177, B3, h⟩ := h
   replace h := iq h; rcases h with ⟨c4, ⟨c4a, c4b⟩, h⟩ | ⟨c4, ⟨c4a, c4b⟩, h⟩
   replace h := iq h; rcases h with ⟨c5, ⟨c5a, c5b⟩, h⟩ | ⟨c5, ⟨c5a, c5b⟩, h⟩
   replace h := iq h; rcases h with ⟨c6, ⟨c6a, c6b⟩, h⟩ | ⟨c6, ⟨c6a, c6b⟩, h⟩
   obtain ⟨kf, hkf⟩ : ∃ kf, kf = kk0 := ⟨_, rfl⟩; rw [← hkf] at h
   obtain ⟨ad176, e176, hx176_0, hx176_1, hx176_2⟩ := at_T74 hr0 (x5_0 : Int) aD aD
   have p176 := eq_true (aD : 0 ≤ (x5_0 : Int))
   have q176 := eq_true (aD : x5_0 < (l0.length : Int))
   cases e176
   replace hx176_0 := qa hx176_0
   replace hx176_1 := qa hx176_1
   replace hx176_2 := qa hx176_2
   obtain ⟨ad178, e178, hx178_0, hx178_1, hx178_2⟩ := at_T74 hr0 (x5_0 : Int) aD aD
   have p178 := eq_true (aD : 0 ≤ (x5_0 : Int))
   have q178 := eq_true (aD : x5_0 < (l0.length : Int))
   cases e178
   replace hx178_0 := qa hx178_0
   replace hx178_1 := qa hx178_1
   replace hx178_2 := qa hx178_2
   obtain ⟨ad179, e179, hx179_0, hx179_1, hx179_2⟩ := at_T74 hr0 (x5_0 : Int) aD aD
   have p179 := eq_true (aD : 0 ≤ (x5_0 : Int))
   have q179 := eq_true (aD : x5_0 < (l0.length : Int))
   cases e179
   replace hx179_0 := qa hx179_0
   replace hx179_1 := qa hx179_1
   replace hx179_2 := qa hx179_2
   rotate_left
   obtain rfl := si h
   obtain ⟨ad176, e176, hx176_0, hx176_1, hx176_2⟩ := at_T74 hr0 (x5_0 : Int) aD aD
   have p176 := eq_true (aD : 0 ≤ (x5_0 : Int))
   have q176 := eq_true (aD : x5_0 < (l0.length : Int))
   cases e176
   replace hx176_0 := qa hx176_0
   replace hx176_1 := qa hx176_1
   replace hx176_2 := qa hx176_2
   obtain ⟨ad178, e178, hx178_0, hx178_1, hx178_2⟩ := at_T74 hr0 (x5_0 : Int) aD aD
   have p178 := eq_true (aD : 0 ≤ (x5_0 : Int))
   have q178 := eq_true (aD : x5_0 < (l0.length : Int))
   cases e178
   replace hx178_0 := qa hx178_0
   replace hx178_1 := qa hx178_1
   replace hx178_2 := qa hx178_2
   obtain ⟨ad179, e179, hx179_0, hx179_1, hx179_2⟩ := at_T74 hr0 (x5_0 : Int) aD aD
   have p179 := eq_true (aD : 0 ≤ (x5_0 : Int))
   have q179 := eq_true (aD : x5_0 < (l0.length : Int))
   cases e179
   replace hx179_0 := qa hx179_0
   replace hx179_1 := qa hx179_1
   replace hx179_2 := qa hx179_2
   rotate_left
   obtain rfl := si h
   obtain ⟨ad176, e176, hx176_0, hx176_1, hx176_2⟩ := at_T74 hr0 (x5_0 : Int) aD aD
   have p176 := eq_true (aD : 0 ≤ (x5_0 : Int))
   have q176 := eq_true (aD : x5_0 < (l0.length : Int))
   cases e176
   replace hx176_0 := qa hx176_0
   replace hx176_1 := qa hx176_1
   replace hx176_2 := qa hx176_2
   obtain ⟨ad178, e178, hx178_0, hx178_1, hx178_2⟩ := at_T74 hr0 (x5_0 : Int) aD aD
   have p178 := eq_true (aD : 0 ≤ (x5_0 : Int))
   have q178 := eq_true (aD : x5_0 < (l0.length : Int))
   cases e178
   replace hx178_0 := qa hx178_0
   replace hx178_1 := qa hx178_1
   replace hx178_2 := qa hx178_2
   rotate_left
   obtain rfl := si h
   obtain ⟨ad176, e176, hx176_0, hx176_1, hx176_2⟩ := at_T74 hr0 (x5_0 : Int) aD aD
   have p176 := eq_true (aD : 0 ≤ (x5_0 : Int))
   have q176 := eq_true (aD : x5_0 < (l0.length : Int))
   cases e176
   replace hx176_0 := qa hx176_0
   replace hx176_1 := qa hx176_1
   replace hx176_2 := qa hx176_2
   rotate_left
   exact absurd h (by simp)
   obtain rfl := si h
   rotate_left
   all_goals (go_wp2; (repeat ((refine nw (w0 := w) zB ?_; intro W1 HB hb hd; (first | (refine Txt.rg (id := 4) [0, 1, 2, 3, 4, 5, 6, 7] (by kernel_rfl) (by kernel_rfl) ?_; simp only [List.map_cons, List.map_nil, List.getD_cons_zero, List.getD_cons_succ])); (repeat (first | (refine Txt.off rfl ?_; simp only [Act.put, List.setIfInBounds_toArray, List.set_cons_zero, List.set_cons_succ]) | (refine Txt.take rfl rfl ?_; intro K hK; go_big_quiet_op; go_big_quiet_on) | (refine Txt.call rfl rfl Try.func65 (by kernel_rfl) rfl (laws_markText.calls ?_ _ ?_ _ ?h) rfl ?_; (case h => exact zA); rintro e w1 ⟨rfl, hb⟩; replace hb := aM hb; have HB : Below w.heap.size w w1 := zB; refine ⟨_, rfl, zS, ?_⟩; simp only [Act.put, List.setIfInBounds_toArray, List.set_cons_zero, List.set_cons_succ]))); refine Txt.nil ?_); (try go_wp2))); first | (go_ret; exact zE zB) | (go_roundg kf; (case measure => omega); (case rel => exact ⟨_, _, zR, zR, zA, zB⟩)))

/-! ### laws_heldIntS: function 66 -/
def laws_heldIntS.l0 : Nat → List Int → Int → Int → Option (Int)
 | 0, _, _, _ => none
 | k + 1, x0, x1, x5 => if x5 < (x0.length : Int) then (if 0 ≤ x5 then (if (rd x0 x5) = x1 then (laws_heldIntS.l0 k x0 (wrap64 (x1 + 1)) (wrap64 (x5 + 1))) else (some (-1))) else (none)) else (some x1)
def laws_heldIntS.f (k : Nat) (l0 : List Int) (a1 : Int) : Option (Int) := laws_heldIntS.l0 k l0 a1 0
set_option maxHeartbeats 8000000 in
set_option maxRecDepth 100000 in
theorem laws_heldIntS.calls (k : Nat) (A0 : Option Addr) (c0 : Nat) (l0 : List Int) (a1 : Int) (r : Int) (w : World) (hr0 : Kd.C (Kd.int .i64) w A0 l0.length l0) (hc0 : l0.length ≤ c0) (h : laws_heldIntS.f k l0 a1 = some r) :
  Calls Try.prog 66 #[.slice A0 l0.length c0, .int .i64 a1] w fun e w' => e = .returned (.int .i64 r) ∧ Drawn0 w w' := by
 unfold laws_heldIntS.f at h
 ·go_enter Try.func66, Try.ntmps66
  go_wp2
  go_loopg [1, 5] k (fun kq v1 v5 w' => ∃ (x1_0 : Int) (x5_0 : Int), v1 = .int .i64 x1_0 ∧ v5 = .int .i64 x5_0 ∧ laws_heldIntS.l0 kq l0 x1_0 x5_0 = some r ∧ Drawn0 w w')
  case atStart => exact ⟨_, _, zR, zR, zA, zD⟩
  case round =>
   clear h
   obtain ⟨x1_0, x5_0, rfl, rfl, h, hb⟩ := hrel
   have hd := hb
   replace hb := hb.below
   replace hb := aM hb
   have HB : Below w.heap.size w wr := zB
   rcases gk with _ | kk0
   exact absurd h (by simp [laws_heldIntS.l0])
   simp only [laws_heldIntS.l0] at h
   replace h := il h; rcases h with ⟨c1, c1a, h⟩ | ⟨c1, c1a, h⟩
   replace h := ie h; rcases h with ⟨c2, c2a, h⟩ | ⟨c2, c2a, h⟩
   replace h := iq h; rcases h with ⟨c3, ⟨c3a, c3b⟩, h⟩ | ⟨c3, ⟨c3a, c3b⟩, h⟩
   obtain ⟨kf, hkf⟩ : ∃ kf, kf = kk0 := ⟨_, rfl⟩; rw [← hkf] at h
   obtain ⟨ad180, e180, hx180_0⟩ := Kd.at_int hr0 (x5_0 : Int) aD aD
   have p180 := eq_true (aD : 0 ≤ (x5_0 : Int))
   have q180 := eq_true (aD : x5_0 < (l0.length : Int))
   cases e180
   replace hx180_0 := qa hx180_0
   rotate_left
   obtain rfl := si h
   obtain ⟨ad180, e180, hx180_0⟩ := Kd.at_int hr0 (x5_0 : Int) aD aD
   have p180 := eq_true (aD : 0 ≤ (x5_0 : Int))
   have q180 := eq_true (aD : x5_0 < (l0.length : Int))
   cases e180
   replace hx180_0 := qa hx180_0
   rotate_left
   exact absurd h (by simp)
   obtain rfl := si h
   rotate_left
   all_goals (go_wp2; first | (go_ret; exact zE zD) | (go_roundg kf; (case measure => omega); (case rel => exact ⟨_, _, zR, zR, zA, zD⟩)))

/-! ### laws_heldFactS: function 44 -/
def laws_heldFactS.l0 : Nat → List (S45) → Int → Int → Option (Int)
 | 0, _, _, _ => none
 | k + 1, x0, x1, x5 => if x5 < (x0.length : Int) then (if 0 ≤ x5 then (if ((rd_T45 x0 x5).f0) = x1 then ((laws_heldIntS.f k ((rd_T45 x0 x5).f1) (wrap64 (x1 + 1))).bind fun t183 => (if t183 < 0 then (some (-1)) else (laws_heldFactS.l0 k x0 t183 (wrap64 (x5 + 1))))) else (some (-1))) else (none)) else (some x1)
def laws_heldFactS.f (k : Nat) (l0 : List (S45)) (a1 : Int) : Option (Int) := laws_heldFactS.l0 k l0 a1 0
set_option maxHeartbeats 8000000 in
set_option maxRecDepth 100000 in
theorem laws_heldFactS.calls (k : Nat) (A0 : Option Addr) (c0 : Nat) (l0 : List (S45)) (a1 : Int) (r : Int) (w : World) (hr0 : Kd.C k45 w A0 l0.length l0) (hc0 : l0.length ≤ c0) (h : laws_heldFactS.f k l0 a1 = some r) :
  Calls Try.prog 44 #[.slice A0 l0.length c0, .int .i64 a1] w fun e w' => e = .returned (.int .i64 r) ∧ Drawn0 w w' := by
 unfold laws_heldFactS.f at h
 ·go_enter Try.func44, Try.ntmps44
  go_wp2_with (first | (go_at_call 66; refine (laws_heldIntS.calls ?_ _ _ _ _ ?_ _ ?_ ?_ ?h).mono ?_; (case h => exact zA); (iterate 2 (first | exact zC | exact zA)); rintro e w1 ⟨rfl, hb⟩; have hd := hb; replace hb := hb.below; replace hb := aM hb; have HB : Below w.heap.size w w1 := zB))
  go_loopg [1, 5] k (fun kq v1 v5 w' => ∃ (x1_0 : Int) (x5_0 : Int), v1 = .int .i64 x1_0 ∧ v5 = .int .i64 x5_0 ∧ laws_heldFactS.l0 kq l0 x1_0 x5_0 = some r ∧ Drawn0 w w')
  case atStart => exact ⟨_, _, zR, zR, zA, zD⟩
  case round =>
   clear h
   obtain ⟨x1_0, x5_0, rfl, rfl, h, hb⟩ := hrel
   have hd := hb
   replace hb := hb.below
   replace hb := aM hb
   have HB : Below w.heap.size w wr := zB
   rcases gk with _ | kk0
   exact absurd h (by simp [laws_heldFactS.l0])
   simp only [laws_heldFactS.l0] at h
   replace h := il h; rcases h with ⟨c1, c1a, h⟩ | ⟨c1, c1a, h⟩
   replace h := ie h; rcases h with ⟨c2, c2a, h⟩ | ⟨c2, c2a, h⟩
   replace h := iq h; rcases h with ⟨c3, ⟨c3a, c3b⟩, h⟩ | ⟨c3, ⟨c3a, c3b⟩, h⟩
   replace h := bs h; obtain ⟨t183, B4, h⟩ := h
   replace h := il h; rcases h with ⟨c5, c5a, h⟩ | ⟨c5, c5a, h⟩
   obtain rfl := si h
   obtain ⟨ad181, A181_1, c181_1, e181, hx181_0, hx181_1, hl181_1, hi181_1⟩ := at_T45 hr0 (x5_0 : Int) aD aD
   have p181 := eq_true (aD : 0 ≤ (x5_0 : Int))
   have q181 := eq_true (aD : x5_0 < (l0.length : Int))
   cases e181
   replace hx181_0 := qa hx181_0
   replace hx181_1 := qa hx181_1
   obtain ⟨ad182, A182_1, c182_1, e182, hx182_0, hx182_1, hl182_1, hi182_1⟩ := at_T45 hr0 (x5_0 : Int) aD aD
   have p182 := eq_true (aD : 0 ≤ (x5_0 : Int))
   have q182 := eq_true (aD : x5_0 < (l0.length : Int))
   cases e182
   replace hx182_0 := qa hx182_0
   replace hx182_1 := qa hx182_1
   rotate_left
   obtain ⟨kf, hkf⟩ : ∃ kf, kf = kk0 := ⟨_, rfl⟩; rw [← hkf] at h
   obtain ⟨ad181, A181_1, c181_1, e181, hx181_0, hx181_1, hl181_1, hi181_1⟩ := at_T45 hr0 (x5_0 : Int) aD aD
   have p181 := eq_true (aD : 0 ≤ (x5_0 : Int))
   have q181 := eq_true (aD : x5_0 < (l0.length : Int))
   cases e181
   replace hx181_0 := qa hx181_0
   replace hx181_1 := qa hx181_1
   obtain ⟨ad182, A182_1, c182_1, e182, hx182_0, hx182_1, hl182_1, hi182_1⟩ := at_T45 hr0 (x5_0 : Int) aD aD
   have p182 := eq_true (aD : 0 ≤ (x5_0 : Int))
   have q182 := eq_true (aD : x5_0 < (l0.length : Int))
   cases e182
   replace hx182_0 := qa hx182_0
   replace hx182_1 := qa hx182_1
   rotate_left
   obtain rfl := si h
   obtain ⟨ad181, A181_1, c181_1, e181, hx181_0, hx181_1, hl181_1, hi181_1⟩ := at_T45 hr0 (x5_0 : Int) aD aD
   have p181 := eq_true (aD : 0 ≤ (x5_0 : Int))
   have q181 := eq_true (aD : x5_0 < (l0.length : Int))
   cases e181
   replace hx181_0 := qa hx181_0
   replace hx181_1 := qa hx181_1
   rotate_left
   exact absurd h (by simp)
   obtain rfl := si h
   rotate_left
   all_goals (go_wp2_with (first | (go_at_call 66; refine (laws_heldIntS.calls ?_ _ _ _ _ ?_ _ ?_ ?_ ?h).mono ?_; (case h => exact zA); (iterate 2 (first | exact zC | exact zA)); rintro e w1 ⟨rfl, hb⟩; have hd := hb; replace hb := hb.below; replace hb := aM hb; have HB : Below w.heap.size w w1 := zB)); first | (go_ret; exact zE zD) | (go_roundg kf; (case measure => omega); (case rel => exact ⟨_, _, zR, zR, zA, zD⟩)))

/-! ### laws_heldDatabase: function 16 -/
def laws_heldDatabase.f (k : Nat) (l0_0 : List (S74)) (l0_1 : List (S45)) (a1 : Int) : Option (Int) := (laws_heldRelationS.f k l0_0 a1).bind fun t185 => (if t185 < 0 then (some (-1)) else ((laws_heldFactS.f k l0_1 t185).bind fun t186 => (if t186 < 0 then (some (-1)) else (some t186))))
set_option maxHeartbeats 8000000 in
set_option maxRecDepth 100000 in
theorem laws_heldDatabase.calls (k : Nat) (A0_0 : Option Addr) (c0_0 : Nat) (l0_0 : List (S74)) (A0_1 : Option Addr) (c0_1 : Nat) (l0_1 : List (S45)) (a1 : Int) (r : Int) (w : World) (hr0_0 : Kd.C k74 w A0_0 l0_0.length l0_0) (hc0_0 : l0_0.length ≤ c0_0) (hr0_1 : Kd.C k45 w A0_1 l0_1.length l0_1) (hc0_1 : l0_1.length ≤ c0_1) (h : laws_heldDatabase.f k l0_0 l0_1 a1 = some r) :
  Calls Try.prog 16 #[.agg #[.slice A0_0 l0_0.length c0_0, .slice A0_1 l0_1.length c0_1], .int .i64 a1] w fun e w' => e = .returned (.int .i64 r) ∧ Below w.heap.size w w' := by
 have hu31 := Try.underlying31
 obtain ⟨W, hW⟩ : ∃ W, w.alloc (.cells #[.slice A0_0 l0_0.length c0_0, .slice A0_1 l0_1.length c0_1] 31) = W := ⟨_, rfl⟩
 have q0 := qa (w := W) (p := ⟨w.heap.size, 0, none⟩) (v := .slice A0_0 l0_0.length c0_0) (by subst hW; go_simp)
 have q1 := qa (w := W) (p := ⟨w.heap.size, 1, none⟩) (v := .slice A0_1 l0_1.length c0_1) (by subst hW; go_simp)
 have HB : Below w.heap.size w W := by subst hW; exact zB
 have HW := Below.refl W.heap.size W
 have hb := aM HB
 unfold laws_heldDatabase.f at h
 replace h := bs h; obtain ⟨t185, B0, h⟩ := h
 replace h := il h; rcases h with ⟨c1, c1a, h⟩ | ⟨c1, c1a, h⟩
 obtain rfl := si h
 rotate_left
 replace h := bs h; obtain ⟨t186, B2, h⟩ := h
 replace h := il h; rcases h with ⟨c3, c3a, h⟩ | ⟨c3, c3a, h⟩
 obtain rfl := si h
 rotate_left
 obtain rfl := si h
 rotate_left
 all_goals (go_enter Try.func16, Try.ntmps16; go_wp2_with (first | (go_at_call 43; refine (laws_heldRelationS.calls ?_ _ _ _ _ ?_ _ ?_ ?_ ?h).mono ?_; (case h => exact zA); (iterate 2 (first | exact zC | exact zA)); rintro e w1 ⟨rfl, hb⟩; replace hb := aM hb; have HW : Below W.heap.size W w1 := zB; have HB : Below w.heap.size w w1 := zB) | (go_at_call 44; refine (laws_heldFactS.calls ?_ _ _ _ _ ?_ _ ?_ ?_ ?h).mono ?_; (case h => exact zA); (iterate 2 (first | exact zC | exact zA)); rintro e w1 ⟨rfl, hb⟩; replace hb := hb.below; replace hb := aM hb; have HW : Below W.heap.size W w1 := zB; have HB : Below w.heap.size w w1 := zB)); go_ret; exact zE zB)

/-! ### spec_l1In: function 61 -/
def spec_l1In.f (a0 : Int) (a1 : Int) (a2 : Int) : Option (Bool) := if a0 ≥ a1 then (some (decide (a0 ≤ a2))) else (some false)
set_option maxHeartbeats 8000000 in
set_option maxRecDepth 100000 in
theorem spec_l1In.calls (a0 : Int) (a1 : Int) (a2 : Int) (r : Bool) (w : World) (h : spec_l1In.f a0 a1 a2 = some r) :
  Calls Try.prog 61 #[.int .i64 a0, .int .i64 a1, .int .i64 a2] w fun e w' => e = .returned (.bool r) ∧ Drawn0 w w' := by
 unfold spec_l1In.f at h
 replace h := ih h; rcases h with ⟨c0, c0a, h⟩ | ⟨c0, c0a, h⟩
 obtain rfl := si h
 rotate_left
 obtain rfl := si h
 rotate_left
 all_goals (go_enter Try.func61, Try.ntmps61; go_wp2; go_ret; exact zE zD)

/-! ### impl_within: function 63 -/
def impl_within.f (a0 : Int) (a1 : Int) (a2 : Int) : Option (Bool) := if a1 ≤ a0 then (some (decide (a0 ≤ a2))) else (some false)
set_option maxHeartbeats 8000000 in
set_option maxRecDepth 100000 in
theorem impl_within.calls (a0 : Int) (a1 : Int) (a2 : Int) (r : Bool) (w : World) (h : impl_within.f a0 a1 a2 = some r) :
  Calls Try.prog 63 #[.int .i64 a0, .int .i64 a1, .int .i64 a2] w fun e w' => e = .returned (.bool r) ∧ Drawn0 w w' := by
 unfold impl_within.f at h
 replace h := ie h; rcases h with ⟨c0, c0a, h⟩ | ⟨c0, c0a, h⟩
 obtain rfl := si h
 rotate_left
 obtain rfl := si h
 rotate_left
 all_goals (go_enter Try.func63, Try.ntmps63; go_wp2; go_ret; exact zE zD)

/-! ### impl_IsValidRelation: function 76 -/
def impl_IsValidRelation.f (a0_0 : ByteArray) (a0_1 : Int) (a0_2 : Int) : Option (Bool) := if (a0_0.size : Int) = 1 then (if 0 < (a0_0.size : Int) then (if (bt a0_0 0) ≥ 97 then (if (bt a0_0 0) ≤ 122 then ((impl_within.f a0_1 1 3).bind fun t188 => (if t188 = true then ((impl_within.f a0_2 0 a0_1).bind fun t189 => (some t189)) else (some false))) else (some false)) else (some false)) else (none)) else (some false)
set_option maxHeartbeats 8000000 in
set_option maxRecDepth 100000 in
theorem impl_IsValidRelation.calls (a0_0 : ByteArray) (a0_1 : Int) (a0_2 : Int) (r : Bool) (w : World) (h : impl_IsValidRelation.f a0_0 a0_1 a0_2 = some r) :
  Calls Try.prog 76 #[.agg #[.string a0_0, .int .i64 a0_1, .int .i64 a0_2]] w fun e w' => e = .returned (.bool r) ∧ Below w.heap.size w w' := by
 have hu74 := Try.underlying74
 obtain ⟨W, hW⟩ : ∃ W, w.alloc (.cells #[.string a0_0, .int .i64 a0_1, .int .i64 a0_2] 74) = W := ⟨_, rfl⟩
 have q0 := qa (w := W) (p := ⟨w.heap.size, 0, none⟩) (v := .string a0_0) (by subst hW; go_simp)
 have q1 := qa (w := W) (p := ⟨w.heap.size, 1, none⟩) (v := .int .i64 a0_1) (by subst hW; go_simp)
 have q2 := qa (w := W) (p := ⟨w.heap.size, 2, none⟩) (v := .int .i64 a0_2) (by subst hW; go_simp)
 have HB : Below w.heap.size w W := by subst hW; exact zB
 have HW := Below.refl W.heap.size W
 have hb := aM HB
 unfold impl_IsValidRelation.f at h
 replace h := iq h; rcases h with ⟨c0, ⟨c0a, c0b⟩, h⟩ | ⟨c0, ⟨c0a, c0b⟩, h⟩
 replace h := il h; rcases h with ⟨c1, c1a, h⟩ | ⟨c1, c1a, h⟩
 have cz := c1.out
 have c1x1 : decide (0 < a0_0.size) = true := decide_eq_true (by omega)
 clear cz
 replace h := ih h; rcases h with ⟨c2, c2a, h⟩ | ⟨c2, c2a, h⟩
 replace h := ie h; rcases h with ⟨c3, c3a, h⟩ | ⟨c3, c3a, h⟩
 replace h := bs h; obtain ⟨t188, B4, h⟩ := h
 replace h := ib h; rcases h with ⟨rfl, h⟩ | ⟨rfl, h⟩
 replace h := bs h; obtain ⟨t189, B6, h⟩ := h
 obtain rfl := si h
 have hxb1 : ∀ h : 0 < a0_0.size, ((a0_0[0]'h).toNat : Int) = bt a0_0 0 := bt_at a0_0 0
 have qib1 := eq_true (aD : 0 < (a0_0.size : Int))
 have qb1 : (0 < a0_0.size) = True := eq_true (by have : (0 : Int) < (a0_0.size : Int) := aD; omega)
 have hxb2 : ∀ h : 0 < a0_0.size, ((a0_0[0]'h).toNat : Int) = bt a0_0 0 := bt_at a0_0 0
 have qib2 := eq_true (aD : 0 < (a0_0.size : Int))
 have qb2 : (0 < a0_0.size) = True := eq_true (by have : (0 : Int) < (a0_0.size : Int) := aD; omega)
 rotate_left
 obtain rfl := si h
 have hxb3 : ∀ h : 0 < a0_0.size, ((a0_0[0]'h).toNat : Int) = bt a0_0 0 := bt_at a0_0 0
 have qib3 := eq_true (aD : 0 < (a0_0.size : Int))
 have qb3 : (0 < a0_0.size) = True := eq_true (by have : (0 : Int) < (a0_0.size : Int) := aD; omega)
 have hxb4 : ∀ h : 0 < a0_0.size, ((a0_0[0]'h).toNat : Int) = bt a0_0 0 := bt_at a0_0 0
 have qib4 := eq_true (aD : 0 < (a0_0.size : Int))
 have qb4 : (0 < a0_0.size) = True := eq_true (by have : (0 : Int) < (a0_0.size : Int) := aD; omega)
 rotate_left
 obtain rfl := si h
 have hxb5 : ∀ h : 0 < a0_0.size, ((a0_0[0]'h).toNat : Int) = bt a0_0 0 := bt_at a0_0 0
 have qib5 := eq_true (aD : 0 < (a0_0.size : Int))
 have qb5 : (0 < a0_0.size) = True := eq_true (by have : (0 : Int) < (a0_0.size : Int) := aD; omega)
 have hxb6 : ∀ h : 0 < a0_0.size, ((a0_0[0]'h).toNat : Int) = bt a0_0 0 := bt_at a0_0 0
 have qib6 := eq_true (aD : 0 < (a0_0.size : Int))
 have qb6 : (0 < a0_0.size) = True := eq_true (by have : (0 : Int) < (a0_0.size : Int) := aD; omega)
 rotate_left
 obtain rfl := si h
 have hxb7 : ∀ h : 0 < a0_0.size, ((a0_0[0]'h).toNat : Int) = bt a0_0 0 := bt_at a0_0 0
 have qib7 := eq_true (aD : 0 < (a0_0.size : Int))
 have qb7 : (0 < a0_0.size) = True := eq_true (by have : (0 : Int) < (a0_0.size : Int) := aD; omega)
 rotate_left
 exact absurd h (by simp)
 obtain rfl := si h
 rotate_left
 all_goals (go_enter Try.func76, Try.ntmps76; go_wp2_with (first | (go_at_call 63; refine (impl_within.calls _ _ _ ?_ _ ?h).mono ?_; (case h => exact zA); rintro e w1 ⟨rfl, hb⟩; replace hb := hb.below; replace hb := aM hb; have HW : Below W.heap.size W w1 := zB; have HB : Below w.heap.size w w1 := zB)); go_ret; exact zE zB)

/-! ### spec_IsValidRelation: function 77 -/
def spec_IsValidRelation.f (a0_0 : ByteArray) (a0_1 : Int) (a0_2 : Int) : Option (Bool) := if (a0_0.size : Int) = 1 then (if 0 < (a0_0.size : Int) then (if (bt a0_0 0) ≥ 97 then (if (bt a0_0 0) ≤ 122 then ((spec_l1In.f a0_1 1 3).bind fun t191 => (if t191 = true then ((spec_l1In.f a0_2 0 a0_1).bind fun t192 => (some t192)) else (some false))) else (some false)) else (some false)) else (none)) else (some false)
set_option maxHeartbeats 8000000 in
set_option maxRecDepth 100000 in
theorem spec_IsValidRelation.calls (a0_0 : ByteArray) (a0_1 : Int) (a0_2 : Int) (r : Bool) (w : World) (h : spec_IsValidRelation.f a0_0 a0_1 a0_2 = some r) :
  Calls Try.prog 77 #[.agg #[.string a0_0, .int .i64 a0_1, .int .i64 a0_2]] w fun e w' => e = .returned (.bool r) ∧ Below w.heap.size w w' := by
 have hu74 := Try.underlying74
 obtain ⟨W, hW⟩ : ∃ W, w.alloc (.cells #[.string a0_0, .int .i64 a0_1, .int .i64 a0_2] 74) = W := ⟨_, rfl⟩
 have q0 := qa (w := W) (p := ⟨w.heap.size, 0, none⟩) (v := .string a0_0) (by subst hW; go_simp)
 have q1 := qa (w := W) (p := ⟨w.heap.size, 1, none⟩) (v := .int .i64 a0_1) (by subst hW; go_simp)
 have q2 := qa (w := W) (p := ⟨w.heap.size, 2, none⟩) (v := .int .i64 a0_2) (by subst hW; go_simp)
 have HB : Below w.heap.size w W := by subst hW; exact zB
 have HW := Below.refl W.heap.size W
 have hb := aM HB
 unfold spec_IsValidRelation.f at h
 replace h := iq h; rcases h with ⟨c0, ⟨c0a, c0b⟩, h⟩ | ⟨c0, ⟨c0a, c0b⟩, h⟩
 replace h := il h; rcases h with ⟨c1, c1a, h⟩ | ⟨c1, c1a, h⟩
 have cz := c1.out
 have c1x1 : decide (0 < a0_0.size) = true := decide_eq_true (by omega)
 clear cz
 replace h := ih h; rcases h with ⟨c2, c2a, h⟩ | ⟨c2, c2a, h⟩
 replace h := ie h; rcases h with ⟨c3, c3a, h⟩ | ⟨c3, c3a, h⟩
 replace h := bs h; obtain ⟨t191, B4, h⟩ := h
 replace h := ib h; rcases h with ⟨rfl, h⟩ | ⟨rfl, h⟩
 replace h := bs h; obtain ⟨t192, B6, h⟩ := h
 obtain rfl := si h
 have hxb1 : ∀ h : 0 < a0_0.size, ((a0_0[0]'h).toNat : Int) = bt a0_0 0 := bt_at a0_0 0
 have qib1 := eq_true (aD : 0 < (a0_0.size : Int))
 have qb1 : (0 < a0_0.size) = True := eq_true (by have : (0 : Int) < (a0_0.size : Int) := aD; omega)
 have hxb2 : ∀ h : 0 < a0_0.size, ((a0_0[0]'h).toNat : Int) = bt a0_0 0 := bt_at a0_0 0
 have qib2 := eq_true (aD : 0 < (a0_0.size : Int))
 have qb2 : (0 < a0_0.size) = True := eq_true (by have : (0 : Int) < (a0_0.size : Int) := aD; omega)
 rotate_left
 obtain rfl := si h
 have hxb3 : ∀ h : 0 < a0_0.size, ((a0_0[0]'h).toNat : Int) = bt a0_0 0 := bt_at a0_0 0
 have qib3 := eq_true (aD : 0 < (a0_0.size : Int))
 have qb3 : (0 < a0_0.size) = True := eq_true (by have : (0 : Int) < (a0_0.size : Int) := aD; omega)
 have hxb4 : ∀ h : 0 < a0_0.size, ((a0_0[0]'h).toNat : Int) = bt a0_0 0 := bt_at a0_0 0
 have qib4 := eq_true (aD : 0 < (a0_0.size : Int))
 have qb4 : (0 < a0_0.size) = True := eq_true (by have : (0 : Int) < (a0_0.size : Int) := aD; omega)
 rotate_left
 obtain rfl := si h
 have hxb5 : ∀ h : 0 < a0_0.size, ((a0_0[0]'h).toNat : Int) = bt a0_0 0 := bt_at a0_0 0
 have qib5 := eq_true (aD : 0 < (a0_0.size : Int))
 have qb5 : (0 < a0_0.size) = True := eq_true (by have : (0 : Int) < (a0_0.size : Int) := aD; omega)
 have hxb6 : ∀ h : 0 < a0_0.size, ((a0_0[0]'h).toNat : Int) = bt a0_0 0 := bt_at a0_0 0
 have qib6 := eq_true (aD : 0 < (a0_0.size : Int))
 have qb6 : (0 < a0_0.size) = True := eq_true (by have : (0 : Int) < (a0_0.size : Int) := aD; omega)
 rotate_left
 obtain rfl := si h
 have hxb7 : ∀ h : 0 < a0_0.size, ((a0_0[0]'h).toNat : Int) = bt a0_0 0 := bt_at a0_0 0
 have qib7 := eq_true (aD : 0 < (a0_0.size : Int))
 have qb7 : (0 < a0_0.size) = True := eq_true (by have : (0 : Int) < (a0_0.size : Int) := aD; omega)
 rotate_left
 exact absurd h (by simp)
 obtain rfl := si h
 rotate_left
 all_goals (go_enter Try.func77, Try.ntmps77; go_wp2_with (first | (go_at_call 61; refine (spec_l1In.calls _ _ _ ?_ _ ?h).mono ?_; (case h => exact zA); rintro e w1 ⟨rfl, hb⟩; replace hb := hb.below; replace hb := aM hb; have HW : Below W.heap.size W w1 := zB; have HB : Below w.heap.size w w1 := zB)); go_ret; exact zE zB)

end Go.Proofs.Yteddnlklfjpgoaa.PFnExactInsertFact
