-- Laid by a program of this claim: what the functions come to, some of them proved by hand.
import Derived.Test.YteddnlklfjpgoaaPFnExactInsertFactx0
import Derived.Test.YteddnlklfjpgoaaPFnExactInsertFactx1
import Derived.Test.YteddnlklfjpgoaaPFnExactInsertFactx2
import Derived.Test.YteddnlklfjpgoaaPFnExactInsertFactx3
import Derived.Test.YteddnlklfjpgoaaPFnExactInsertFactx6
import Derived.Test.YteddnlklfjpgoaaPFnExactInsertFactx11
import Derived.Test.YteddnlklfjpgoaaPFnExactInsertFactx12
namespace Go.Proofs.Yteddnlklfjpgoaa.PFnExactInsertFact
open Go.RowKit Go.Proofs.YteddnlklfjpgoaaW.PrintWords Go.Proofs.YteddnlklfjpgoaaW.PrintLast Go.Proofs.YteddnlklfjpgoaaW.PrintMore
attribute [local go_sem] max2_int min2_int max_two min_two max_three min_three max_four min_four   -- for this text's walks alone
set_option linter.unusedVariables false
set_option linter.unusedSimpArgs false

/-! ### laws_FnExactInsertFact: function 4 -/
def laws_FnExactInsertFact.f (k : Nat) (l0_0 : List S78) (l0_1 : List S42) (a1_0 : Int) (l1_1 : List Int) : Option Bool := (laws_szDatabase.f k l0_0 l0_1 1048576).bind fun t0 => if t0 < 0 then some true else (laws_szFact.f a1_0 l1_1 t0).bind fun t00 => if t00 < 0 then some true else (laws_toDatabase.f k l0_0 l0_1).bind fun d => (laws_toFact.f k a1_0 l1_1).bind fun x1 => (spec_InsertFact.f k d.1 d.2 x1.1 x1.2).bind fun s => (impl_InsertFact.f k d.1 d.2 x1.1 x1.2).bind fun g => (laws_eqDatabase.f k g.1 g.2.1 s.1 s.2.1).bind fun b1 => if b1 = true then (if (g.2.2 == s.2.2) = true then ((laws_eqDatabase.f k d.1 d.2 d.1 d.2).bind fun b2 => if b2 = true then ((laws_eqFact.f k x1.1 x1.2 x1.1 x1.2).bind fun b3 => if b3 = true then ((laws_markDatabase.f k d.1 d.2 1).bind fun m => (laws_markFact.f k x1.1 x1.2 m.1).bind fun mx => if mx.1 < 0 then some false else ((laws_markDatabase.f k g.1 g.2.1 1).bind fun mg => (laws_heldDatabase.f k mg.2.1 mg.2.2 1).bind fun q => if q < 0 then some false else if q = mg.1 then some true else some false)) else some false) else some false) else some false) else some false
section
variable {α : Type} {d : Kd α} {e : Nat} {w1 W W2 : World} {base lo hi l h' : Nat} {v : Value} {xs : List α}
theorem N_iv (h : Kd.N d e w1 base (fun k => lo ≤ k) v xs) (hb : Below w1.heap.size w1 W) : Kd.N d e W base (Iv lo w1.heap.size) v xs := Kd.N_below (Kd.N_mono (Kd.N_bound h) (fun _ hk => ⟨hk.1, hk.2⟩)) hb
theorem N_past (h : Kd.N d e W base (Iv lo hi) v xs) (hk : Kept W W2 (Iv l h')) (hd : hi ≤ l ∨ h' ≤ lo) : Kd.N d e W2 base (Iv lo hi) v xs := Kd.N_kept h hk (fun k a b => by have := a.1; have := a.2; have := b.1; have := b.2; omega)
theorem N_atq (h : Kd.N d e w1 base (Iv lo hi) v xs) (hb : Below w1.heap.size w1 W) : Kd.N d e W base (Iv lo hi) v xs := Kd.N_below h hb
end
set_option maxHeartbeats 8000000 in
set_option maxRecDepth 100000 in
theorem laws_FnExactInsertFact.calls (k : Nat) (A0_0 : Option Addr) (c0_0 : Nat) (l0_0 : List S78) (A0_1 : Option Addr) (c0_1 : Nat) (l0_1 : List S42) (a1_0 : Int) (A1_1 : Option Addr) (c1_1 : Nat) (l1_1 : List Int) (r : Bool) (w : World) (hr0_0 : Kd.C k78 w A0_0 l0_0.length l0_0) (hc0_0 : l0_0.length ≤ c0_0) (hr0_1 : Kd.C k42 w A0_1 l0_1.length l0_1) (hc0_1 : l0_1.length ≤ c0_1) (hr1_1 : Kd.C (Kd.int .i64) w A1_1 l1_1.length l1_1) (hc1_1 : l1_1.length ≤ c1_1) (h : laws_FnExactInsertFact.f k l0_0 l0_1 a1_0 l1_1 = some r) (hr_ : r = true) :
  Calls Try.prog 4 #[.agg #[.slice A0_0 l0_0.length c0_0, .slice A0_1 l0_1.length c0_1], .agg #[.int .i64 a1_0, .slice A1_1 l1_1.length c1_1]] w fun e w' => e = .returned (.bool r) ∧ Below w.heap.size w w' := by
 subst hr_
 have hu25 := Try.underlying25
 have hu31 := Try.underlying31
 have hu42 := Try.underlying42
 have hu45 := Try.underlying45
 obtain ⟨W, hW⟩ : ∃ W, (w.alloc (.cells #[.slice A0_0 l0_0.length c0_0, .slice A0_1 l0_1.length c0_1] 25)).alloc (.cells #[.int .i64 a1_0, .slice A1_1 l1_1.length c1_1] 42) = W := ⟨_, rfl⟩
 have bx0 : W.heap[w.heap.size]? = some (.cells #[.slice A0_0 l0_0.length c0_0, .slice A0_1 l0_1.length c0_1] 25 (0, 0)) := by subst hW; first | exact heap_alloc_new _ _ | exact blk_alloc (heap_alloc_new _ _) _ | (have := heap_alloc_new (w.alloc (.cells #[.slice A0_0 l0_0.length c0_0, .slice A0_1 l0_1.length c0_1] 25)) (.cells #[.slice A0_0 l0_0.length c0_0, .slice A0_1 l0_1.length c0_1] 25); simpa using this)
 have bx1 : W.heap[w.heap.size + 1]? = some (.cells #[.int .i64 a1_0, .slice A1_1 l1_1.length c1_1] 42 (0, 0)) := by subst hW; first | exact heap_alloc_new _ _ | exact blk_alloc (heap_alloc_new _ _) _ | (have := heap_alloc_new (w.alloc (.cells #[.slice A0_0 l0_0.length c0_0, .slice A0_1 l0_1.length c0_1] 25)) (.cells #[.int .i64 a1_0, .slice A1_1 l1_1.length c1_1] 42); simpa using this)
 have HB : Below w.heap.size w W := by subst hW; exact zB
 have hb := aM HB
 have HA := Below.refl W.heap.size W
 have z0 := aM HB.size
 have zl := aM (show w.heap.size < W.heap.size by subst hW; first | (simp; done) | (simp; omega))
 have zm := aM (show w.heap.size + 1 < W.heap.size by subst hW; first | (simp; done) | (simp; omega))
 have qbx0_0 := qa (w := W) ((blk_cell bx0 0).trans rfl)
 have qbx0_1 := qa (w := W) ((blk_cell bx0 1).trans rfl)
 have qbx1_0 := qa (w := W) ((blk_cell bx1 0).trans rfl)
 have qbx1_1 := qa (w := W) ((blk_cell bx1 1).trans rfl)
 have rg_ := @bcl w
 have rd_ := @bdr w
 unfold laws_FnExactInsertFact.f at h
 replace h := bs h; obtain ⟨t0, B0, h⟩ := h
 replace h := il h; rcases h with ⟨c0, c0a, h⟩ | ⟨c0, c0a, h⟩
 go_enter Try.func4, Try.ntmps4
 go_wp2_with (first | (go_at_call 7; refine (laws_szDatabase.calls ?_ _ _ _ _ _ _ _ ?_ _ ?_ ?_ ?_ ?_ ?h).mono ?_; (case h => exact zA); (iterate 4 (first | exact zC | exact zA)); rintro e w1 ⟨rfl, hb⟩; replace hb := aM hb; have HA : Below W.heap.size W w1 := zB; have HB : Below w.heap.size w w1 := zB) | (go_at_call 17; refine (laws_szFact.calls _ _ _ _ _ ?_ _ ?_ ?_ ?h).mono ?_; (case h => exact zA); (iterate 2 (first | exact zC | exact zA)); rintro e w1 ⟨rfl, hb⟩; replace hb := aM hb; have HA : Below W.heap.size W w1 := zB; have HB : Below w.heap.size w w1 := zB))
 go_ret
 exact zE zB
 replace h := bs h; obtain ⟨t00, B00, h⟩ := h
 replace h := il h; rcases h with ⟨c00, c00a, h⟩ | ⟨c00, c00a, h⟩
 go_enter Try.func4, Try.ntmps4
 go_wp2_with (first | (go_at_call 7; refine (laws_szDatabase.calls ?_ _ _ _ _ _ _ _ ?_ _ ?_ ?_ ?_ ?_ ?h).mono ?_; (case h => exact zA); (iterate 4 (first | exact zC | exact zA)); rintro e w1 ⟨rfl, hb⟩; replace hb := aM hb; have HA : Below W.heap.size W w1 := zB; have HB : Below w.heap.size w w1 := zB) | (go_at_call 17; refine (laws_szFact.calls _ _ _ _ _ ?_ _ ?_ ?_ ?h).mono ?_; (case h => exact zA); (iterate 2 (first | exact zC | exact zA)); rintro e w1 ⟨rfl, hb⟩; replace hb := aM hb; have HA : Below W.heap.size W w1 := zB; have HB : Below w.heap.size w w1 := zB))
 go_ret
 exact zE zB
 replace h := bs h; obtain ⟨⟨d1, d2⟩, Bd, h⟩ := h
 replace h := bs h; obtain ⟨⟨x1, x2⟩, Bx, h⟩ := h
 replace h := bs h; obtain ⟨⟨s1, s2, sb⟩, Bs, h⟩ := h
 replace h := bs h; obtain ⟨⟨g1, g2, gb⟩, Bg, h⟩ := h
 dsimp only at h Bs Bg
 replace h := bs h; obtain ⟨b1, Be, h⟩ := h
 replace h := ib h; rcases h with ⟨rfl, h⟩ | ⟨rfl, h⟩
 rotate_left
 exact absurd (si h) (by decide)
 replace h := ib h; rcases h with ⟨eb, h⟩ | ⟨eb, h⟩
 rotate_left
 exact absurd (si h) (by decide)
 obtain rfl : gb = sb := by simpa using eb
 clear eb
 replace h := bs h; obtain ⟨b2, Be2, h⟩ := h
 replace h := ib h; rcases h with ⟨rfl, h⟩ | ⟨rfl, h⟩
 rotate_left
 exact absurd (si h) (by decide)
 replace h := bs h; obtain ⟨b3, Be3, h⟩ := h
 replace h := ib h; rcases h with ⟨rfl, h⟩ | ⟨rfl, h⟩
 rotate_left
 exact absurd (si h) (by decide)
 replace h := bs h; obtain ⟨⟨m1, m2, m3⟩, Bm, h⟩ := h
 replace h := bs h; obtain ⟨⟨mx1, mx2⟩, Bmx, h⟩ := h
 dsimp only at h
 replace h := il h; rcases h with ⟨cm, cma, h⟩ | ⟨cm, cma, h⟩
 exact absurd (si h) (by decide)
 replace h := bs h; obtain ⟨⟨n1, n2, n3⟩, Bn, h⟩ := h
 replace h := bs h; obtain ⟨q, Bq, h⟩ := h
 dsimp only at h Bq
 replace h := il h; rcases h with ⟨cq, cqa, h⟩ | ⟨cq, cqa, h⟩
 exact absurd (si h) (by decide)
 replace h := iq h; rcases h with ⟨ce, ⟨cea, ceb⟩, h⟩ | ⟨ce, ⟨cea, ceb⟩, h⟩
 rotate_left
 exact absurd (si h) (by decide)
 obtain rfl := ce.out
 clear h ce cea ceb
 go_enter Try.func4, Try.ntmps4
 go_wp2_with fail
 refine (laws_szDatabase.calls ?_ _ _ _ _ _ _ _ ?_ _ ?_ ?_ ?_ ?_ ?h).mono ?_; (case h => exact zA)
 (iterate 4 (first | exact zC | exact zA))
 rintro e u1 ⟨rfl, hb⟩
 replace hb := aM hb
 have z1 := aM hb.out.size
 have HA : Below W.heap.size W u1 := zB
 have HB : Below w.heap.size w u1 := zB
 go_wp2_with fail
 refine (laws_szFact.calls _ _ _ _ _ ?_ _ ?_ ?_ ?h).mono ?_; (case h => exact zA)
 (iterate 2 (first | exact zC | exact zA))
 rintro e u2 ⟨rfl, hb⟩
 replace hb := aM hb
 have z2 := aM hb.out.size
 have HA : Below W.heap.size W u2 := zB
 have HB : Below w.heap.size w u2 := zB
 go_wp2_with fail
 refine nw (w0 := w) zB ?_
 intro Wd3 HB hb hd
 have HA : Below W.heap.size W Wd3 := zB
 have zw3 := aM hb.out.size
 go_cut [6, 7] (fun va_ vb_ wc => ∃ (gs_ : Nat) (A0_ : Option Addr) (c0_ : Nat) (A1_ : Option Addr) (c1_ : Nat), va_ = .pointer (some ⟨gs_, 0, none⟩) ∧ vb_ = .bool gb ∧ Aside0 (Kd.N k74 74 wc Wd3.heap.size (fun k_ => Wd3.heap.size ≤ k_) (.slice A0_ s1.length c0_) s1) ∧ Aside0 (Kd.N k45 45 wc Wd3.heap.size (fun k_ => Wd3.heap.size ≤ k_) (.slice A1_ s2.length c1_) s2) ∧ Aside0 (wc.heap[gs_]? = some (.cells #[.slice A0_ s1.length c0_, .slice A1_ s2.length c1_] 31 (0, 0))) ∧ Aside0 (Wd3.heap.size ≤ gs_) ∧ Aside0 (Below Wd3.heap.size Wd3 wc))
 case first =>
  have rG_ := @bcl W
  have rD_ := @bdr W
  refine Txt.rgT (id := 8) (.one 0 (.one 2 (.two 1 8 (.two 3 8 (.two 4 8 (.one 5 (.one 6 (.one 7 (.one 8 (.one 9 (.one 10 (.nil))))))) (.one 4 (.one 5 (.one 6 (.one 7 (.one 9 (.one 10 (.nil)))))))) (.one 3 (.one 4 (.one 5 (.one 6 (.one 7 (.one 9 (.one 10 (.nil))))))))) (.one 1 (.one 3 (.one 4 (.one 5 (.one 6 (.one 7 (.one 9 (.one 10 (.nil)))))))))))) (by kernel_rfl) (by kernel_rfl) ?_
  simp only [Txt.Tr.ops, List.getD_cons_zero, List.getD_cons_succ]
  refine Txt.takeT rfl rfl ?_; intro K hK; go_big_quiet_op; go_big_quiet_on
  refine Txt.takeT rfl rfl ?_; intro K hK; go_big_quiet_op; go_big_quiet_on
  refine Txt.twoT ?_ ?_
  ·refine Txt.callT rfl rfl Try.func9 (by kernel_rfl) rfl (laws_toDatabase.calls ?_ _ _ _ _ _ _ ?_ ?_ _ ?_ ?_ ?_ ?_ ?h) rfl ?_; (case h => exact zA); (iterate 4 (first | exact zC | exact zA)); rintro e f3_1 ⟨v0, v1, rfl, ho0, ho1, hb⟩; obtain ⟨A0, c0, rfl, hc0, hC0⟩ := (show ∃ A_ c_, v0 = .slice A_ _ c_ ∧ _ ≤ c_ ∧ Kd.C _ _ A_ _ _ from (by first | exact Kd.R_reads ho0 | exact Kd.R_reads (Kd.S_R ho0) | exact Kd.N_reads ho0)); obtain ⟨A1, c1, rfl, hc1, hC1⟩ := (show ∃ A_ c_, v1 = .slice A_ _ c_ ∧ _ ≤ c_ ∧ Kd.C _ _ A_ _ _ from (by first | exact Kd.R_reads ho1 | exact Kd.R_reads (Kd.S_R ho1) | exact Kd.N_reads ho1)); replace hb := aM hb; have HA : Below W.heap.size W f3_1 := zB; have HB : Below w.heap.size w f3_1 := zB; have HW_ : Below Wd3.heap.size Wd3 f3_1 := zB; refine ⟨_, rfl, zS, ?_⟩; simp only [Act.put, List.setIfInBounds_toArray, List.set_cons_zero, List.set_cons_succ]
   refine Txt.twoT ?_ ?_
   ·refine Txt.callT rfl rfl Try.func19 (by kernel_rfl) rfl (laws_toFact.calls ?_ _ _ _ _ ?_ ?_ _ ?_ ?_ ?h) rfl ?_; (case h => exact zA); (iterate 2 (first | exact zC | exact zA)); rintro e f3_2 ⟨v1, rfl, ho1, hb⟩; obtain ⟨A1, c1, rfl, hc1, hC1⟩ := (show ∃ A_ c_, v1 = .slice A_ _ c_ ∧ _ ≤ c_ ∧ Kd.C _ _ A_ _ _ from (by first | exact Kd.R_reads ho1 | exact Kd.R_reads (Kd.S_R ho1) | exact Kd.N_reads ho1)); replace hb := aM hb; have HA : Below W.heap.size W f3_2 := zB; have HB : Below w.heap.size w f3_2 := zB; have HW_ : Below Wd3.heap.size Wd3 f3_2 := zB; refine ⟨_, rfl, zS, ?_⟩; simp only [Act.put, List.setIfInBounds_toArray, List.set_cons_zero, List.set_cons_succ]
    refine Txt.twoT ?_ ?_
    ·refine Txt.callT rfl rfl Try.func18 (by kernel_rfl) rfl (spec_InsertFact.calls ?_ _ _ _ _ _ _ _ _ _ _ ?_ ?_ ?_ _ ?_ ?_ ?_ ?_ ?_ ?_ ?h) rfl ?_; (case h => exact zA); (iterate 6 (first | exact zC | exact zA)); rintro e f3_3 ⟨v0, v1, rfl, ho0, ho1, hb⟩; obtain ⟨A0, c0, rfl, hc0, hC0⟩ := (show ∃ A_ c_, v0 = .slice A_ _ c_ ∧ _ ≤ c_ ∧ Kd.C _ _ A_ _ _ from (by first | exact Kd.R_reads ho0 | exact Kd.R_reads (Kd.S_R ho0) | exact Kd.N_reads ho0)); obtain ⟨A1, c1, rfl, hc1, hC1⟩ := (show ∃ A_ c_, v1 = .slice A_ _ c_ ∧ _ ≤ c_ ∧ Kd.C _ _ A_ _ _ from (by first | exact Kd.R_reads ho1 | exact Kd.R_reads (Kd.S_R ho1) | exact Kd.N_reads ho1)); replace hb := aM hb; have HA : Below W.heap.size W f3_3 := zB; have HB : Below w.heap.size w f3_3 := zB; have HW_ : Below Wd3.heap.size Wd3 f3_3 := zB; refine ⟨_, rfl, zS, ?_⟩; simp only [Act.put, List.setIfInBounds_toArray, List.set_cons_zero, List.set_cons_succ]
     have HS0 : Kd.N k74 74 f3_3 Wd3.heap.size (fun k_ => Wd3.heap.size ≤ k_ ∧ f3_2.heap.size ≤ k_) _ _ := Kd.N_lower (by have hs_ := Below.size (zB (w := Wd3) (w' := f3_2)); first | exact Kd.R_N (Kd.R_mono (Kd.R_bound ho0) (fun k hk => ⟨Nat.le_trans hs_ hk.2.1, hk.2.1⟩)) | exact Kd.S_N (Kd.S_mono (Kd.S_bound ho0) (fun k hk => ⟨Nat.le_trans hs_ hk.2.1, hk.2.1⟩)) | exact Kd.N_mono ho0 (fun k hk => ⟨Nat.le_trans hs_ hk.1, hk.1⟩)) (Below.size (zB (w := Wd3) (w' := f3_2)))
     have HS1 : Kd.N k45 45 f3_3 Wd3.heap.size (fun k_ => Wd3.heap.size ≤ k_ ∧ f3_2.heap.size ≤ k_) _ _ := Kd.N_lower (by have hs_ := Below.size (zB (w := Wd3) (w' := f3_2)); first | exact Kd.R_N (Kd.R_mono (Kd.R_bound ho1) (fun k hk => ⟨Nat.le_trans hs_ hk.2.1, hk.2.1⟩)) | exact Kd.S_N (Kd.S_mono (Kd.S_bound ho1) (fun k hk => ⟨Nat.le_trans hs_ hk.2.1, hk.2.1⟩)) | exact Kd.N_mono ho1 (fun k hk => ⟨Nat.le_trans hs_ hk.1, hk.1⟩)) (Below.size (zB (w := Wd3) (w' := f3_2)))
     refine Txt.takeT rfl rfl ?_; intro K hK; go_big_quiet_op; go_big_quiet_on
     refine Txt.takeT rfl rfl ?_; intro K hK; go_big_quiet_op; go_big_quiet_on
     refine Txt.takeT rfl rfl ?_; intro K hK; go_big_quiet_op; go_big_quiet_on
     refine Txt.stepT rfl ?_ zS; intro K hK hS_; refine box_step ?hg (N := 6) ?hd (cs := #[.slice none 0 0, .slice none 0 0]) (t := 31) ?hr ?_; (case hd => rfl); (case hg => rfl); (case hr => first | (go_simp; done) | (go_simp; rfl)); intro gs_ hgs f3_4 BX hb; have BX0_ := aM hgs; replace hb := aM hb; have HA : Below W.heap.size W f3_4 := zB; have HB : Below w.heap.size w f3_4 := zB; have HW_ : Below Wd3.heap.size Wd3 f3_4 := zB
     have hge_ := aM (show Wd3.heap.size ≤ gs_ by rw [hgs]; exact Below.size (zB (w := Wd3) (w' := f3_3))); clear hgs
     replace HS0 := Kd.N_below (Kd.N_mono (Kd.N_bound HS0) (ok' := fun k_ => Wd3.heap.size ≤ k_ ∧ k_ ≠ gs_) (fun k hk => ⟨hk.1.1, fun e_ => by have := hk.2; have := BX0_.out; omega⟩)) hb.out
     replace HS1 := Kd.N_below (Kd.N_mono (Kd.N_bound HS1) (ok' := fun k_ => Wd3.heap.size ≤ k_ ∧ k_ ≠ gs_) (fun k hk => ⟨hk.1.1, fun e_ => by have := hk.2; have := BX0_.out; omega⟩)) hb.out
     refine hK _ _ zS ?_
     simp only [Act.put, List.setIfInBounds_toArray, List.set_cons_zero, List.set_cons_succ]
     have hcz0 : f3_4.cell? ⟨gs_, 0, none⟩ = some (.slice none 0 0) := (blk_cell BX 0).trans rfl
     have hfz0 := blk_frozen BX 0
     have hcz1 : f3_4.cell? ⟨gs_, 1, none⟩ = some (.slice none 0 0) := (blk_cell BX 1).trans rfl
     have hfz1 := blk_frozen BX 1
     have BX2 := blk_put (cs := #[.slice A0 s1.length c0, .slice none 0 0]) (blk_put (cs := #[.slice none 0 0, .slice none 0 0]) BX 0 (.slice A0 s1.length c0) rfl) 1 (.slice A1 s2.length c1) rfl
     have HB2 : Below Wd3.heap.size Wd3 ((f3_4.setCell ⟨gs_, 0, none⟩ (.slice A0 s1.length c0)).setCell ⟨gs_, 1, none⟩ (.slice A1 s2.length c1)) := below_set (below_set (zB (w := Wd3) (w' := f3_4)) hge_.out) hge_.out
     refine Txt.stepT rfl ?_ zS; intro K hK hS_; refine skip_ (w1 := ?_) (by rfl) rfl ?_ ?_
     rotate_left
     ·(go_simp; rfl)
     refine hK _ _ (regrown_of_below HB2) ?_
     refine Txt.takeT rfl rfl ?_; intro K hK; go_big_quiet_op; go_big_quiet_on
     refine Txt.nilT ?_
     (try go_wp2)
     go_meet
     case rel => exact ⟨gs_, _, _, _, _, rfl, rfl, ⟨Kd.N_mono (Kd.N_far (p := ⟨gs_, 1, none⟩) (Kd.N_far (p := ⟨gs_, 0, none⟩) (Kd.N_mono HS0 (fun _ hk => (⟨hk.1, hk.2⟩ : _ ∧ _))) (fun _ hk => hk.2) _) (fun _ hk => hk.2) _) (fun _ hk => hk.1)⟩, ⟨Kd.N_mono (Kd.N_far (p := ⟨gs_, 1, none⟩) (Kd.N_far (p := ⟨gs_, 0, none⟩) (Kd.N_mono HS1 (fun _ hk => (⟨hk.1, hk.2⟩ : _ ∧ _))) (fun _ hk => hk.2) _) (fun _ hk => hk.2) _) (fun _ hk => hk.1)⟩, ⟨BX2⟩, hge_, ⟨HB2⟩⟩
    ·refine Txt.stepT rfl ?_ zS; intro K hK hS_; refine box_step ?hg (N := 6) ?hd (cs := #[.slice none 0 0, .slice none 0 0]) (t := 31) ?hr ?_; (case hd => rfl); (case hg => rfl); (case hr => first | (go_simp; done) | (go_simp; rfl)); intro gs_ hgs f3_6 BX hb; have BX0_ := aM hgs; replace hb := aM hb; have HA : Below W.heap.size W f3_6 := zB; have HB : Below w.heap.size w f3_6 := zB; have HW_ : Below Wd3.heap.size Wd3 f3_6 := zB
     have hge_ := aM (show Wd3.heap.size ≤ gs_ by rw [hgs]; exact Below.size (zB (w := Wd3) (w' := f3_2))); clear hgs
     refine hK _ _ zS ?_
     simp only [Act.put, List.setIfInBounds_toArray, List.set_cons_zero, List.set_cons_succ]
     have hglt_ := aM (blk_lt BX)
     refine Txt.callT rfl rfl Try.func18 (by kernel_rfl) rfl (spec_InsertFact.calls ?_ _ _ _ _ _ _ _ _ _ _ ?_ ?_ ?_ _ ?_ ?_ ?_ ?_ ?_ ?_ ?h) rfl ?_; (case h => exact zA); (iterate 6 (first | exact zC | exact zA)); rintro e f3_7 ⟨v0, v1, rfl, ho0, ho1, hb⟩; obtain ⟨A0, c0, rfl, hc0, hC0⟩ := (show ∃ A_ c_, v0 = .slice A_ _ c_ ∧ _ ≤ c_ ∧ Kd.C _ _ A_ _ _ from (by first | exact Kd.R_reads ho0 | exact Kd.R_reads (Kd.S_R ho0) | exact Kd.N_reads ho0)); obtain ⟨A1, c1, rfl, hc1, hC1⟩ := (show ∃ A_ c_, v1 = .slice A_ _ c_ ∧ _ ≤ c_ ∧ Kd.C _ _ A_ _ _ from (by first | exact Kd.R_reads ho1 | exact Kd.R_reads (Kd.S_R ho1) | exact Kd.N_reads ho1)); replace hb := aM hb; have HA : Below W.heap.size W f3_7 := zB; have HB : Below w.heap.size w f3_7 := zB; have HW_ : Below Wd3.heap.size Wd3 f3_7 := zB; refine ⟨_, rfl, zS, ?_⟩; simp only [Act.put, List.setIfInBounds_toArray, List.set_cons_zero, List.set_cons_succ]
     replace BX := blk_below BX hb.out
     have HS0 : Kd.N k74 74 f3_7 Wd3.heap.size (fun k_ => Wd3.heap.size ≤ k_ ∧ f3_6.heap.size ≤ k_) _ _ := Kd.N_lower (by have hs_ := Below.size (zB (w := Wd3) (w' := f3_6)); first | exact Kd.R_N (Kd.R_mono (Kd.R_bound ho0) (fun k hk => ⟨Nat.le_trans hs_ hk.2.1, hk.2.1⟩)) | exact Kd.S_N (Kd.S_mono (Kd.S_bound ho0) (fun k hk => ⟨Nat.le_trans hs_ hk.2.1, hk.2.1⟩)) | exact Kd.N_mono ho0 (fun k hk => ⟨Nat.le_trans hs_ hk.1, hk.1⟩)) (Below.size (zB (w := Wd3) (w' := f3_6)))
     have HS1 : Kd.N k45 45 f3_7 Wd3.heap.size (fun k_ => Wd3.heap.size ≤ k_ ∧ f3_6.heap.size ≤ k_) _ _ := Kd.N_lower (by have hs_ := Below.size (zB (w := Wd3) (w' := f3_6)); first | exact Kd.R_N (Kd.R_mono (Kd.R_bound ho1) (fun k hk => ⟨Nat.le_trans hs_ hk.2.1, hk.2.1⟩)) | exact Kd.S_N (Kd.S_mono (Kd.S_bound ho1) (fun k hk => ⟨Nat.le_trans hs_ hk.2.1, hk.2.1⟩)) | exact Kd.N_mono ho1 (fun k hk => ⟨Nat.le_trans hs_ hk.1, hk.1⟩)) (Below.size (zB (w := Wd3) (w' := f3_6)))
     replace HS0 := Kd.N_mono HS0 (ok' := fun k_ => Wd3.heap.size ≤ k_ ∧ k_ ≠ gs_) (fun k hk => ⟨hk.1, fun e_ => by have := hglt_.out; have := hk.2; omega⟩)
     replace HS1 := Kd.N_mono HS1 (ok' := fun k_ => Wd3.heap.size ≤ k_ ∧ k_ ≠ gs_) (fun k hk => ⟨hk.1, fun e_ => by have := hglt_.out; have := hk.2; omega⟩)
     refine Txt.takeT rfl rfl ?_; intro K hK; go_big_quiet_op; go_big_quiet_on
     refine Txt.takeT rfl rfl ?_; intro K hK; go_big_quiet_op; go_big_quiet_on
     refine Txt.takeT rfl rfl ?_; intro K hK; go_big_quiet_op; go_big_quiet_on
     have hcz0 : f3_7.cell? ⟨gs_, 0, none⟩ = some (.slice none 0 0) := (blk_cell BX 0).trans rfl
     have hfz0 := blk_frozen BX 0
     have hcz1 : f3_7.cell? ⟨gs_, 1, none⟩ = some (.slice none 0 0) := (blk_cell BX 1).trans rfl
     have hfz1 := blk_frozen BX 1
     have BX2 := blk_put (cs := #[.slice A0 s1.length c0, .slice none 0 0]) (blk_put (cs := #[.slice none 0 0, .slice none 0 0]) BX 0 (.slice A0 s1.length c0) rfl) 1 (.slice A1 s2.length c1) rfl
     have HB2 : Below Wd3.heap.size Wd3 ((f3_7.setCell ⟨gs_, 0, none⟩ (.slice A0 s1.length c0)).setCell ⟨gs_, 1, none⟩ (.slice A1 s2.length c1)) := below_set (below_set (zB (w := Wd3) (w' := f3_7)) hge_.out) hge_.out
     refine Txt.stepT rfl ?_ zS; intro K hK hS_; refine skip_ (w1 := ?_) (by rfl) rfl ?_ ?_
     rotate_left
     ·(go_simp; rfl)
     refine hK _ _ (regrown_of_below HB2) ?_
     refine Txt.takeT rfl rfl ?_; intro K hK; go_big_quiet_op; go_big_quiet_on
     refine Txt.nilT ?_
     (try go_wp2)
     go_meet
     case rel => exact ⟨gs_, _, _, _, _, rfl, rfl, ⟨Kd.N_mono (Kd.N_far (p := ⟨gs_, 1, none⟩) (Kd.N_far (p := ⟨gs_, 0, none⟩) (Kd.N_mono HS0 (fun _ hk => (⟨hk.1, hk.2⟩ : _ ∧ _))) (fun _ hk => hk.2) _) (fun _ hk => hk.2) _) (fun _ hk => hk.1)⟩, ⟨Kd.N_mono (Kd.N_far (p := ⟨gs_, 1, none⟩) (Kd.N_far (p := ⟨gs_, 0, none⟩) (Kd.N_mono HS1 (fun _ hk => (⟨hk.1, hk.2⟩ : _ ∧ _))) (fun _ hk => hk.2) _) (fun _ hk => hk.2) _) (fun _ hk => hk.1)⟩, ⟨BX2⟩, hge_, ⟨HB2⟩⟩
   ·refine Txt.stepT rfl ?_ zS; intro K hK hS_; refine box_step ?hg (N := 6) ?hd (cs := #[.slice none 0 0, .slice none 0 0]) (t := 31) ?hr ?_; (case hd => rfl); (case hg => rfl); (case hr => first | (go_simp; done) | (go_simp; rfl)); intro gs_ hgs f3_9 BX hb; have BX0_ := aM hgs; replace hb := aM hb; have HA : Below W.heap.size W f3_9 := zB; have HB : Below w.heap.size w f3_9 := zB; have HW_ : Below Wd3.heap.size Wd3 f3_9 := zB
    have hge_ := aM (show Wd3.heap.size ≤ gs_ by rw [hgs]; exact Below.size (zB (w := Wd3) (w' := f3_1))); clear hgs
    refine hK _ _ zS ?_
    simp only [Act.put, List.setIfInBounds_toArray, List.set_cons_zero, List.set_cons_succ]
    refine Txt.callT rfl rfl Try.func19 (by kernel_rfl) rfl (laws_toFact.calls ?_ _ _ _ _ ?_ ?_ _ ?_ ?_ ?h) rfl ?_; (case h => exact zA); (iterate 2 (first | exact zC | exact zA)); rintro e f3_10 ⟨v1, rfl, ho1, hb⟩; obtain ⟨A1, c1, rfl, hc1, hC1⟩ := (show ∃ A_ c_, v1 = .slice A_ _ c_ ∧ _ ≤ c_ ∧ Kd.C _ _ A_ _ _ from (by first | exact Kd.R_reads ho1 | exact Kd.R_reads (Kd.S_R ho1) | exact Kd.N_reads ho1)); replace hb := aM hb; have HA : Below W.heap.size W f3_10 := zB; have HB : Below w.heap.size w f3_10 := zB; have HW_ : Below Wd3.heap.size Wd3 f3_10 := zB; refine ⟨_, rfl, zS, ?_⟩; simp only [Act.put, List.setIfInBounds_toArray, List.set_cons_zero, List.set_cons_succ]
    replace BX := blk_below BX hb.out
    have hglt_ := aM (blk_lt BX)
    refine Txt.callT rfl rfl Try.func18 (by kernel_rfl) rfl (spec_InsertFact.calls ?_ _ _ _ _ _ _ _ _ _ _ ?_ ?_ ?_ _ ?_ ?_ ?_ ?_ ?_ ?_ ?h) rfl ?_; (case h => exact zA); (iterate 6 (first | exact zC | exact zA)); rintro e f3_11 ⟨v0, v1, rfl, ho0, ho1, hb⟩; obtain ⟨A0, c0, rfl, hc0, hC0⟩ := (show ∃ A_ c_, v0 = .slice A_ _ c_ ∧ _ ≤ c_ ∧ Kd.C _ _ A_ _ _ from (by first | exact Kd.R_reads ho0 | exact Kd.R_reads (Kd.S_R ho0) | exact Kd.N_reads ho0)); obtain ⟨A1, c1, rfl, hc1, hC1⟩ := (show ∃ A_ c_, v1 = .slice A_ _ c_ ∧ _ ≤ c_ ∧ Kd.C _ _ A_ _ _ from (by first | exact Kd.R_reads ho1 | exact Kd.R_reads (Kd.S_R ho1) | exact Kd.N_reads ho1)); replace hb := aM hb; have HA : Below W.heap.size W f3_11 := zB; have HB : Below w.heap.size w f3_11 := zB; have HW_ : Below Wd3.heap.size Wd3 f3_11 := zB; refine ⟨_, rfl, zS, ?_⟩; simp only [Act.put, List.setIfInBounds_toArray, List.set_cons_zero, List.set_cons_succ]
    replace BX := blk_below BX hb.out
    have HS0 : Kd.N k74 74 f3_11 Wd3.heap.size (fun k_ => Wd3.heap.size ≤ k_ ∧ f3_10.heap.size ≤ k_) _ _ := Kd.N_lower (by have hs_ := Below.size (zB (w := Wd3) (w' := f3_10)); first | exact Kd.R_N (Kd.R_mono (Kd.R_bound ho0) (fun k hk => ⟨Nat.le_trans hs_ hk.2.1, hk.2.1⟩)) | exact Kd.S_N (Kd.S_mono (Kd.S_bound ho0) (fun k hk => ⟨Nat.le_trans hs_ hk.2.1, hk.2.1⟩)) | exact Kd.N_mono ho0 (fun k hk => ⟨Nat.le_trans hs_ hk.1, hk.1⟩)) (Below.size (zB (w := Wd3) (w' := f3_10)))
    have HS1 : Kd.N k45 45 f3_11 Wd3.heap.size (fun k_ => Wd3.heap.size ≤ k_ ∧ f3_10.heap.size ≤ k_) _ _ := Kd.N_lower (by have hs_ := Below.size (zB (w := Wd3) (w' := f3_10)); first | exact Kd.R_N (Kd.R_mono (Kd.R_bound ho1) (fun k hk => ⟨Nat.le_trans hs_ hk.2.1, hk.2.1⟩)) | exact Kd.S_N (Kd.S_mono (Kd.S_bound ho1) (fun k hk => ⟨Nat.le_trans hs_ hk.2.1, hk.2.1⟩)) | exact Kd.N_mono ho1 (fun k hk => ⟨Nat.le_trans hs_ hk.1, hk.1⟩)) (Below.size (zB (w := Wd3) (w' := f3_10)))
    replace HS0 := Kd.N_mono HS0 (ok' := fun k_ => Wd3.heap.size ≤ k_ ∧ k_ ≠ gs_) (fun k hk => ⟨hk.1, fun e_ => by have := hglt_.out; have := hk.2; omega⟩)
    replace HS1 := Kd.N_mono HS1 (ok' := fun k_ => Wd3.heap.size ≤ k_ ∧ k_ ≠ gs_) (fun k hk => ⟨hk.1, fun e_ => by have := hglt_.out; have := hk.2; omega⟩)
    refine Txt.takeT rfl rfl ?_; intro K hK; go_big_quiet_op; go_big_quiet_on
    refine Txt.takeT rfl rfl ?_; intro K hK; go_big_quiet_op; go_big_quiet_on
    refine Txt.takeT rfl rfl ?_; intro K hK; go_big_quiet_op; go_big_quiet_on
    have hcz0 : f3_11.cell? ⟨gs_, 0, none⟩ = some (.slice none 0 0) := (blk_cell BX 0).trans rfl
    have hfz0 := blk_frozen BX 0
    have hcz1 : f3_11.cell? ⟨gs_, 1, none⟩ = some (.slice none 0 0) := (blk_cell BX 1).trans rfl
    have hfz1 := blk_frozen BX 1
    have BX2 := blk_put (cs := #[.slice A0 s1.length c0, .slice none 0 0]) (blk_put (cs := #[.slice none 0 0, .slice none 0 0]) BX 0 (.slice A0 s1.length c0) rfl) 1 (.slice A1 s2.length c1) rfl
    have HB2 : Below Wd3.heap.size Wd3 ((f3_11.setCell ⟨gs_, 0, none⟩ (.slice A0 s1.length c0)).setCell ⟨gs_, 1, none⟩ (.slice A1 s2.length c1)) := below_set (below_set (zB (w := Wd3) (w' := f3_11)) hge_.out) hge_.out
    refine Txt.stepT rfl ?_ zS; intro K hK hS_; refine skip_ (w1 := ?_) (by rfl) rfl ?_ ?_
    rotate_left
    ·(go_simp; rfl)
    refine hK _ _ (regrown_of_below HB2) ?_
    refine Txt.takeT rfl rfl ?_; intro K hK; go_big_quiet_op; go_big_quiet_on
    refine Txt.nilT ?_
    (try go_wp2)
    go_meet
    case rel => exact ⟨gs_, _, _, _, _, rfl, rfl, ⟨Kd.N_mono (Kd.N_far (p := ⟨gs_, 1, none⟩) (Kd.N_far (p := ⟨gs_, 0, none⟩) (Kd.N_mono HS0 (fun _ hk => (⟨hk.1, hk.2⟩ : _ ∧ _))) (fun _ hk => hk.2) _) (fun _ hk => hk.2) _) (fun _ hk => hk.1)⟩, ⟨Kd.N_mono (Kd.N_far (p := ⟨gs_, 1, none⟩) (Kd.N_far (p := ⟨gs_, 0, none⟩) (Kd.N_mono HS1 (fun _ hk => (⟨hk.1, hk.2⟩ : _ ∧ _))) (fun _ hk => hk.2) _) (fun _ hk => hk.2) _) (fun _ hk => hk.1)⟩, ⟨BX2⟩, hge_, ⟨HB2⟩⟩
  ·refine Txt.stepT rfl ?_ zS; intro K hK hS_; refine box_step ?hg (N := 6) ?hd (cs := #[.slice none 0 0, .slice none 0 0]) (t := 31) ?hr ?_; (case hd => rfl); (case hg => rfl); (case hr => first | (go_simp; done) | (go_simp; rfl)); intro gs_ hgs f3_13 BX hb; have BX0_ := aM hgs; replace hb := aM hb; have HA : Below W.heap.size W f3_13 := zB; have HB : Below w.heap.size w f3_13 := zB; have HW_ : Below Wd3.heap.size Wd3 f3_13 := zB
   have hge_ := aM (show Wd3.heap.size ≤ gs_ by rw [hgs]; exact Below.size (zB (w := Wd3) (w' := Wd3.drew))); clear hgs
   refine hK _ _ zS ?_
   simp only [Act.put, List.setIfInBounds_toArray, List.set_cons_zero, List.set_cons_succ]
   refine Txt.callT rfl rfl Try.func9 (by kernel_rfl) rfl (laws_toDatabase.calls ?_ _ _ _ _ _ _ ?_ ?_ _ ?_ ?_ ?_ ?_ ?h) rfl ?_; (case h => exact zA); (iterate 4 (first | exact zC | exact zA)); rintro e f3_14 ⟨v0, v1, rfl, ho0, ho1, hb⟩; obtain ⟨A0, c0, rfl, hc0, hC0⟩ := (show ∃ A_ c_, v0 = .slice A_ _ c_ ∧ _ ≤ c_ ∧ Kd.C _ _ A_ _ _ from (by first | exact Kd.R_reads ho0 | exact Kd.R_reads (Kd.S_R ho0) | exact Kd.N_reads ho0)); obtain ⟨A1, c1, rfl, hc1, hC1⟩ := (show ∃ A_ c_, v1 = .slice A_ _ c_ ∧ _ ≤ c_ ∧ Kd.C _ _ A_ _ _ from (by first | exact Kd.R_reads ho1 | exact Kd.R_reads (Kd.S_R ho1) | exact Kd.N_reads ho1)); replace hb := aM hb; have HA : Below W.heap.size W f3_14 := zB; have HB : Below w.heap.size w f3_14 := zB; have HW_ : Below Wd3.heap.size Wd3 f3_14 := zB; refine ⟨_, rfl, zS, ?_⟩; simp only [Act.put, List.setIfInBounds_toArray, List.set_cons_zero, List.set_cons_succ]
   replace BX := blk_below BX hb.out
   refine Txt.callT rfl rfl Try.func19 (by kernel_rfl) rfl (laws_toFact.calls ?_ _ _ _ _ ?_ ?_ _ ?_ ?_ ?h) rfl ?_; (case h => exact zA); (iterate 2 (first | exact zC | exact zA)); rintro e f3_15 ⟨v1, rfl, ho1, hb⟩; obtain ⟨A1, c1, rfl, hc1, hC1⟩ := (show ∃ A_ c_, v1 = .slice A_ _ c_ ∧ _ ≤ c_ ∧ Kd.C _ _ A_ _ _ from (by first | exact Kd.R_reads ho1 | exact Kd.R_reads (Kd.S_R ho1) | exact Kd.N_reads ho1)); replace hb := aM hb; have HA : Below W.heap.size W f3_15 := zB; have HB : Below w.heap.size w f3_15 := zB; have HW_ : Below Wd3.heap.size Wd3 f3_15 := zB; refine ⟨_, rfl, zS, ?_⟩; simp only [Act.put, List.setIfInBounds_toArray, List.set_cons_zero, List.set_cons_succ]
   replace BX := blk_below BX hb.out
   have hglt_ := aM (blk_lt BX)
   refine Txt.callT rfl rfl Try.func18 (by kernel_rfl) rfl (spec_InsertFact.calls ?_ _ _ _ _ _ _ _ _ _ _ ?_ ?_ ?_ _ ?_ ?_ ?_ ?_ ?_ ?_ ?h) rfl ?_; (case h => exact zA); (iterate 6 (first | exact zC | exact zA)); rintro e f3_16 ⟨v0, v1, rfl, ho0, ho1, hb⟩; obtain ⟨A0, c0, rfl, hc0, hC0⟩ := (show ∃ A_ c_, v0 = .slice A_ _ c_ ∧ _ ≤ c_ ∧ Kd.C _ _ A_ _ _ from (by first | exact Kd.R_reads ho0 | exact Kd.R_reads (Kd.S_R ho0) | exact Kd.N_reads ho0)); obtain ⟨A1, c1, rfl, hc1, hC1⟩ := (show ∃ A_ c_, v1 = .slice A_ _ c_ ∧ _ ≤ c_ ∧ Kd.C _ _ A_ _ _ from (by first | exact Kd.R_reads ho1 | exact Kd.R_reads (Kd.S_R ho1) | exact Kd.N_reads ho1)); replace hb := aM hb; have HA : Below W.heap.size W f3_16 := zB; have HB : Below w.heap.size w f3_16 := zB; have HW_ : Below Wd3.heap.size Wd3 f3_16 := zB; refine ⟨_, rfl, zS, ?_⟩; simp only [Act.put, List.setIfInBounds_toArray, List.set_cons_zero, List.set_cons_succ]
   replace BX := blk_below BX hb.out
   have HS0 : Kd.N k74 74 f3_16 Wd3.heap.size (fun k_ => Wd3.heap.size ≤ k_ ∧ f3_15.heap.size ≤ k_) _ _ := Kd.N_lower (by have hs_ := Below.size (zB (w := Wd3) (w' := f3_15)); first | exact Kd.R_N (Kd.R_mono (Kd.R_bound ho0) (fun k hk => ⟨Nat.le_trans hs_ hk.2.1, hk.2.1⟩)) | exact Kd.S_N (Kd.S_mono (Kd.S_bound ho0) (fun k hk => ⟨Nat.le_trans hs_ hk.2.1, hk.2.1⟩)) | exact Kd.N_mono ho0 (fun k hk => ⟨Nat.le_trans hs_ hk.1, hk.1⟩)) (Below.size (zB (w := Wd3) (w' := f3_15)))
   have HS1 : Kd.N k45 45 f3_16 Wd3.heap.size (fun k_ => Wd3.heap.size ≤ k_ ∧ f3_15.heap.size ≤ k_) _ _ := Kd.N_lower (by have hs_ := Below.size (zB (w := Wd3) (w' := f3_15)); first | exact Kd.R_N (Kd.R_mono (Kd.R_bound ho1) (fun k hk => ⟨Nat.le_trans hs_ hk.2.1, hk.2.1⟩)) | exact Kd.S_N (Kd.S_mono (Kd.S_bound ho1) (fun k hk => ⟨Nat.le_trans hs_ hk.2.1, hk.2.1⟩)) | exact Kd.N_mono ho1 (fun k hk => ⟨Nat.le_trans hs_ hk.1, hk.1⟩)) (Below.size (zB (w := Wd3) (w' := f3_15)))
   replace HS0 := Kd.N_mono HS0 (ok' := fun k_ => Wd3.heap.size ≤ k_ ∧ k_ ≠ gs_) (fun k hk => ⟨hk.1, fun e_ => by have := hglt_.out; have := hk.2; omega⟩)
   replace HS1 := Kd.N_mono HS1 (ok' := fun k_ => Wd3.heap.size ≤ k_ ∧ k_ ≠ gs_) (fun k hk => ⟨hk.1, fun e_ => by have := hglt_.out; have := hk.2; omega⟩)
   refine Txt.takeT rfl rfl ?_; intro K hK; go_big_quiet_op; go_big_quiet_on
   refine Txt.takeT rfl rfl ?_; intro K hK; go_big_quiet_op; go_big_quiet_on
   refine Txt.takeT rfl rfl ?_; intro K hK; go_big_quiet_op; go_big_quiet_on
   have hcz0 : f3_16.cell? ⟨gs_, 0, none⟩ = some (.slice none 0 0) := (blk_cell BX 0).trans rfl
   have hfz0 := blk_frozen BX 0
   have hcz1 : f3_16.cell? ⟨gs_, 1, none⟩ = some (.slice none 0 0) := (blk_cell BX 1).trans rfl
   have hfz1 := blk_frozen BX 1
   have BX2 := blk_put (cs := #[.slice A0 s1.length c0, .slice none 0 0]) (blk_put (cs := #[.slice none 0 0, .slice none 0 0]) BX 0 (.slice A0 s1.length c0) rfl) 1 (.slice A1 s2.length c1) rfl
   have HB2 : Below Wd3.heap.size Wd3 ((f3_16.setCell ⟨gs_, 0, none⟩ (.slice A0 s1.length c0)).setCell ⟨gs_, 1, none⟩ (.slice A1 s2.length c1)) := below_set (below_set (zB (w := Wd3) (w' := f3_16)) hge_.out) hge_.out
   refine Txt.stepT rfl ?_ zS; intro K hK hS_; refine skip_ (w1 := ?_) (by rfl) rfl ?_ ?_
   rotate_left
   ·(go_simp; rfl)
   refine hK _ _ (regrown_of_below HB2) ?_
   refine Txt.takeT rfl rfl ?_; intro K hK; go_big_quiet_op; go_big_quiet_on
   refine Txt.nilT ?_
   (try go_wp2)
   go_meet
   case rel => exact ⟨gs_, _, _, _, _, rfl, rfl, ⟨Kd.N_mono (Kd.N_far (p := ⟨gs_, 1, none⟩) (Kd.N_far (p := ⟨gs_, 0, none⟩) (Kd.N_mono HS0 (fun _ hk => (⟨hk.1, hk.2⟩ : _ ∧ _))) (fun _ hk => hk.2) _) (fun _ hk => hk.2) _) (fun _ hk => hk.1)⟩, ⟨Kd.N_mono (Kd.N_far (p := ⟨gs_, 1, none⟩) (Kd.N_far (p := ⟨gs_, 0, none⟩) (Kd.N_mono HS1 (fun _ hk => (⟨hk.1, hk.2⟩ : _ ∧ _))) (fun _ hk => hk.2) _) (fun _ hk => hk.2) _) (fun _ hk => hk.1)⟩, ⟨BX2⟩, hge_, ⟨HB2⟩⟩
 obtain ⟨sg, sA0, sc0, sA1, sc1, rfl, rfl, sN0, sN1, bxs_, sge, hb⟩ := hcut
 obtain ⟨u3, rfl⟩ : ∃ U_, U_ = wc := ⟨_, rfl⟩
 have so0 := sN0.out
 have sl0 := (Kd.N_reads' so0).2.1
 have sC0 := (Kd.N_reads' so0).2.2
 have so1 := sN1.out
 have sl1 := (Kd.N_reads' so1).2.1
 have sC1 := (Kd.N_reads' so1).2.2
 have bxs := bxs_.out
 have z3 := aM hb.out.size
 have zg3 := aM sge.out
 have zh3 := aM (blk_lt bxs)
 have bx0 := blk_below bx0 (zB (w := W) (w' := u3))
 clear qbx0_0 qbx0_1
 have bx1 := blk_below bx1 (zB (w := W) (w' := u3))
 clear qbx1_0 qbx1_1
 clear HA
 have qbx0_0 := qa (w := u3) ((blk_cell bx0 0).trans rfl)
 have qbx0_1 := qa (w := u3) ((blk_cell bx0 1).trans rfl)
 have qbx1_0 := qa (w := u3) ((blk_cell bx1 0).trans rfl)
 have qbx1_1 := qa (w := u3) ((blk_cell bx1 1).trans rfl)
 have qbxs_0 := qa (w := u3) ((blk_cell bxs 0).trans rfl)
 have qbxs_1 := qa (w := u3) ((blk_cell bxs 1).trans rfl)
 have HA := Below.refl u3.heap.size u3
 have HB : Below w.heap.size w u3 := zB
 go_wp2_with fail
 refine (laws_toDatabase.calls ?_ _ _ _ _ _ _ ?_ ?_ _ ?_ ?_ ?_ ?_ ?h).mono ?_; (case h => exact zA)
 (iterate 4 (first | exact zC | exact zA))
 rintro e u4 ⟨xv0, xv1, rfl, xo0, xo1, hb⟩
 obtain ⟨xA0, xc0, rfl, xl0, xC0⟩ := Kd.R_reads xo0
 obtain ⟨xA1, xc1, rfl, xl1, xC1⟩ := Kd.R_reads (Kd.S_R xo1)
 replace hb := aM hb
 have z4 := aM hb.out.size
 have HA : Below u3.heap.size u3 u4 := zB
 have HB : Below w.heap.size w u4 := zB
 obtain ⟨W4, hW4⟩ : ∃ W_, u4.alloc (.cells #[.slice xA0 d1.length xc0, .slice xA1 d2.length xc1] 31) = W_ := ⟨_, rfl⟩
 have bxx : W4.heap[u4.heap.size]? = some (.cells #[.slice xA0 d1.length xc0, .slice xA1 d2.length xc1] 31 (0, 0)) := by subst hW4; exact heap_alloc_new _ _
 have hb : Aside0 (Below u4.heap.size u4 W4) := ⟨by subst hW4; exact below_alloc (Below.refl _ _) _⟩
 have bx0 := blk_below bx0 (zB (w := u3) (w' := W4))
 clear qbx0_0 qbx0_1
 have bx1 := blk_below bx1 (zB (w := u3) (w' := W4))
 clear qbx1_0 qbx1_1
 have bxs := blk_below bxs (zB (w := u3) (w' := W4))
 clear qbxs_0 qbxs_1
 clear HA
 have z4b := aM (show u4.heap.size < W4.heap.size by subst hW4; simp)
 have qbx0_0 := qa (w := W4) ((blk_cell bx0 0).trans rfl)
 have qbx0_1 := qa (w := W4) ((blk_cell bx0 1).trans rfl)
 have qbx1_0 := qa (w := W4) ((blk_cell bx1 0).trans rfl)
 have qbx1_1 := qa (w := W4) ((blk_cell bx1 1).trans rfl)
 have qbxs_0 := qa (w := W4) ((blk_cell bxs 0).trans rfl)
 have qbxs_1 := qa (w := W4) ((blk_cell bxs 1).trans rfl)
 have qbxx_0 := qa (w := W4) ((blk_cell bxx 0).trans rfl)
 have qbxx_1 := qa (w := W4) ((blk_cell bxx 1).trans rfl)
 have HA := Below.refl W4.heap.size W4
 have HB : Below w.heap.size w W4 := zB
 go_wp2_with fail
 refine (laws_toFact.calls ?_ _ _ _ _ ?_ ?_ _ ?_ ?_ ?h).mono ?_; (case h => exact zA)
 (iterate 2 (first | exact zC | exact zA))
 rintro e u5 ⟨yv1, rfl, yo1, hb⟩
 obtain ⟨yA1, yc1, rfl, yl1, yC1⟩ := Kd.R_reads yo1
 replace hb := aM hb
 have z5 := aM hb.out.size
 have HA : Below W4.heap.size W4 u5 := zB
 have HB : Below w.heap.size w u5 := zB
 obtain ⟨W5, hW5⟩ : ∃ W_, u5.alloc (.cells #[.int .i64 x1, .slice yA1 x2.length yc1] 45) = W_ := ⟨_, rfl⟩
 have bxy : W5.heap[u5.heap.size]? = some (.cells #[.int .i64 x1, .slice yA1 x2.length yc1] 45 (0, 0)) := by subst hW5; exact heap_alloc_new _ _
 have hb : Aside0 (Below u5.heap.size u5 W5) := ⟨by subst hW5; exact below_alloc (Below.refl _ _) _⟩
 have bx0 := blk_below bx0 (zB (w := W4) (w' := W5))
 clear qbx0_0 qbx0_1
 have bx1 := blk_below bx1 (zB (w := W4) (w' := W5))
 clear qbx1_0 qbx1_1
 have bxs := blk_below bxs (zB (w := W4) (w' := W5))
 clear qbxs_0 qbxs_1
 have bxx := blk_below bxx (zB (w := W4) (w' := W5))
 clear qbxx_0 qbxx_1
 clear HA
 have z5b := aM (show u5.heap.size < W5.heap.size by subst hW5; simp)
 have qbx0_0 := qa (w := W5) ((blk_cell bx0 0).trans rfl)
 have qbx0_1 := qa (w := W5) ((blk_cell bx0 1).trans rfl)
 have qbx1_0 := qa (w := W5) ((blk_cell bx1 0).trans rfl)
 have qbx1_1 := qa (w := W5) ((blk_cell bx1 1).trans rfl)
 have qbxs_0 := qa (w := W5) ((blk_cell bxs 0).trans rfl)
 have qbxs_1 := qa (w := W5) ((blk_cell bxs 1).trans rfl)
 have qbxx_0 := qa (w := W5) ((blk_cell bxx 0).trans rfl)
 have qbxx_1 := qa (w := W5) ((blk_cell bxx 1).trans rfl)
 have qbxy_0 := qa (w := W5) ((blk_cell bxy 0).trans rfl)
 have qbxy_1 := qa (w := W5) ((blk_cell bxy 1).trans rfl)
 have HA := Below.refl W5.heap.size W5
 have HB : Below w.heap.size w W5 := zB
 go_wp2_with fail
 refine (impl_InsertFact.calls ?_ _ _ _ _ _ _ _ _ _ _ ?_ ?_ ?_ _ ?_ ?_ ?_ ?_ ?_ ?_ ?h).mono ?_; (case h => exact zA)
 (iterate 6 (first | exact zC | exact zA))
 rintro e u6 ⟨gv0, gv1, rfl, go0, go1, hb⟩
 obtain ⟨gA0, gc0, rfl, gl0, gC0⟩ := Kd.R_reads go0
 obtain ⟨gA1, gc1, rfl, gl1, gC1⟩ := Kd.R_reads (Kd.S_R go1)
 replace hb := aM hb
 have z6 := aM hb.out.size
 have HA : Below W5.heap.size W5 u6 := zB
 have HB : Below w.heap.size w u6 := zB
 obtain ⟨W6, hW6⟩ : ∃ W_, u6.alloc (.cells #[.slice gA0 g1.length gc0, .slice gA1 g2.length gc1] 31) = W_ := ⟨_, rfl⟩
 have bxg : W6.heap[u6.heap.size]? = some (.cells #[.slice gA0 g1.length gc0, .slice gA1 g2.length gc1] 31 (0, 0)) := by subst hW6; exact heap_alloc_new _ _
 have hb : Aside0 (Below u6.heap.size u6 W6) := ⟨by subst hW6; exact below_alloc (Below.refl _ _) _⟩
 have bx0 := blk_below bx0 (zB (w := W5) (w' := W6))
 clear qbx0_0 qbx0_1
 have bx1 := blk_below bx1 (zB (w := W5) (w' := W6))
 clear qbx1_0 qbx1_1
 have bxs := blk_below bxs (zB (w := W5) (w' := W6))
 clear qbxs_0 qbxs_1
 have bxx := blk_below bxx (zB (w := W5) (w' := W6))
 clear qbxx_0 qbxx_1
 have bxy := blk_below bxy (zB (w := W5) (w' := W6))
 clear qbxy_0 qbxy_1
 clear HA
 have z6b := aM (show u6.heap.size < W6.heap.size by subst hW6; simp)
 have qbx0_0 := qa (w := W6) ((blk_cell bx0 0).trans rfl)
 have qbx0_1 := qa (w := W6) ((blk_cell bx0 1).trans rfl)
 have qbx1_0 := qa (w := W6) ((blk_cell bx1 0).trans rfl)
 have qbx1_1 := qa (w := W6) ((blk_cell bx1 1).trans rfl)
 have qbxs_0 := qa (w := W6) ((blk_cell bxs 0).trans rfl)
 have qbxs_1 := qa (w := W6) ((blk_cell bxs 1).trans rfl)
 have qbxx_0 := qa (w := W6) ((blk_cell bxx 0).trans rfl)
 have qbxx_1 := qa (w := W6) ((blk_cell bxx 1).trans rfl)
 have qbxy_0 := qa (w := W6) ((blk_cell bxy 0).trans rfl)
 have qbxy_1 := qa (w := W6) ((blk_cell bxy 1).trans rfl)
 have qbxg_0 := qa (w := W6) ((blk_cell bxg 0).trans rfl)
 have qbxg_1 := qa (w := W6) ((blk_cell bxg 1).trans rfl)
 have HA := Below.refl W6.heap.size W6
 have HB : Below w.heap.size w W6 := zB
 go_wp2_with fail
 refine (laws_eqDatabase.calls ?_ _ _ _ _ _ _ _ _ _ _ _ _ ?_ _ ?_ ?_ ?_ ?_ ?_ ?_ ?_ ?_ ?h).mono ?_; (case h => exact zA)
 (iterate 8 (first | exact zC | exact zA))
 rintro e u7 ⟨rfl, hb⟩
 replace hb := aM hb
 have z7 := aM hb.out.size
 have HA : Below W6.heap.size W6 u7 := zB
 have HB : Below w.heap.size w u7 := zB
 go_wp2_with fail
 refine nw (w0 := w) zB ?_
 intro Wd8 HB hb hd
 have HA : Below W6.heap.size W6 Wd8 := zB
 have rG_ := @bcl W6
 have rD_ := @bdr W6
 refine Txt.rg (id := 14) [0, 1, 2, 3, 4] (by kernel_rfl) (by kernel_rfl) ?_
 simp only [List.map_cons, List.map_nil, List.getD_cons_zero, List.getD_cons_succ]
 (repeat (first | (refine Txt.off rfl ?_; simp only [Act.put, List.setIfInBounds_toArray, List.set_cons_zero, List.set_cons_succ]) | (refine Txt.take rfl rfl ?_; intro K hK; go_big_quiet_op; go_big_quiet_on) | (refine Txt.call rfl rfl Try.func9 (by kernel_rfl) rfl (laws_toDatabase.calls ?_ _ _ _ _ _ _ ?_ ?_ _ ?_ ?_ ?_ ?_ ?h) rfl ?_; (case h => exact zA); (iterate 4 (first | exact zC | exact zA)); rintro e w1 ⟨v0, v1, rfl, ho0, ho1, hb⟩; obtain ⟨A0, c0, rfl, hc0, hC0⟩ := Kd.R_reads ho0; obtain ⟨A1, c1, rfl, hc1, hC1⟩ := Kd.R_reads (Kd.S_R ho1); replace hb := aM hb; have HA : Below W6.heap.size W6 w1 := zB; have HB : Below w.heap.size w w1 := zB; refine ⟨_, rfl, zS, ?_⟩; simp only [Act.put, List.setIfInBounds_toArray, List.set_cons_zero, List.set_cons_succ]) | (refine Txt.call rfl rfl Try.func12 (by kernel_rfl) rfl (laws_eqDatabase.calls ?_ _ _ _ _ _ _ _ _ _ _ _ _ ?_ _ ?_ ?_ ?_ ?_ ?_ ?_ ?_ ?_ ?h) rfl ?_; (case h => exact zA); (iterate 8 (first | exact zC | exact zA)); rintro e u8 ⟨rfl, hb⟩; replace hb := aM hb; have HA : Below W6.heap.size W6 u8 := zB; have HB : Below w.heap.size w u8 := zB; refine ⟨_, rfl, zS, ?_⟩; simp only [Act.put, List.setIfInBounds_toArray, List.set_cons_zero, List.set_cons_succ])))
 refine Txt.nil ?_
 have z8 := aM (zB (w := u7) (w' := u8)).size
 clear rG_ rD_
 go_wp2_with fail
 refine nw (w0 := w) zB ?_
 intro Wd9 HB hb hd
 have HA : Below W6.heap.size W6 Wd9 := zB
 have rG_ := @bcl W6
 have rD_ := @bdr W6
 refine Txt.rg (id := 16) [0, 1, 2, 3, 4] (by kernel_rfl) (by kernel_rfl) ?_
 simp only [List.map_cons, List.map_nil, List.getD_cons_zero, List.getD_cons_succ]
 (repeat (first | (refine Txt.off rfl ?_; simp only [Act.put, List.setIfInBounds_toArray, List.set_cons_zero, List.set_cons_succ]) | (refine Txt.take rfl rfl ?_; intro K hK; go_big_quiet_op; go_big_quiet_on) | (refine Txt.call rfl rfl Try.func19 (by kernel_rfl) rfl (laws_toFact.calls ?_ _ _ _ _ ?_ ?_ _ ?_ ?_ ?h) rfl ?_; (case h => exact zA); (iterate 2 (first | exact zC | exact zA)); rintro e w1 ⟨v1, rfl, ho1, hb⟩; obtain ⟨A1, c1, rfl, hc1, hC1⟩ := Kd.R_reads ho1; replace hb := aM hb; have HA : Below W6.heap.size W6 w1 := zB; have HB : Below w.heap.size w w1 := zB; refine ⟨_, rfl, zS, ?_⟩; simp only [Act.put, List.setIfInBounds_toArray, List.set_cons_zero, List.set_cons_succ]) | (refine Txt.call rfl rfl Try.func21 (by kernel_rfl) rfl (laws_eqFact.calls ?_ _ _ _ _ _ _ _ _ ?_ _ ?_ ?_ ?_ ?_ ?h) rfl ?_; (case h => exact zA); (iterate 4 (first | exact zC | exact zA)); rintro e u9 ⟨rfl, hb⟩; replace hb := aM hb; have HA : Below W6.heap.size W6 u9 := zB; have HB : Below w.heap.size w u9 := zB; refine ⟨_, rfl, zS, ?_⟩; simp only [Act.put, List.setIfInBounds_toArray, List.set_cons_zero, List.set_cons_succ])))
 refine Txt.nil ?_
 have z9 := aM (zB (w := u8) (w' := u9)).size
 clear rG_ rD_
 have xH9_0 := Kd.R_lower (R_iv xo0 (zB (w := u4) (w' := u9))) (show w.heap.size ≤ _ by have := z0.out; have := zl.out; have := zm.out; have := z1.out; have := z2.out; have := zw3.out; have := z3.out; have := zg3.out; have := zh3.out; have := z4.out; have := z4b.out; have := z5.out; have := z5b.out; have := z6.out; have := z6b.out; have := z7.out; have := z8.out; have := z9.out; omega)
 have xH9_1 := Kd.S_lower (S_iv xo1 (zB (w := u4) (w' := u9))) (show w.heap.size ≤ _ by have := z0.out; have := zl.out; have := zm.out; have := z1.out; have := z2.out; have := zw3.out; have := z3.out; have := zg3.out; have := zh3.out; have := z4.out; have := z4b.out; have := z5.out; have := z5b.out; have := z6.out; have := z6b.out; have := z7.out; have := z8.out; have := z9.out; omega)
 go_wp2_with fail
 refine (laws_markDatabase.calls k _ _ _ _ _ _ 1 _ _ _ w _ HB xH9_0 xH9_1 (fun k_ a_ b_ => Ty.ne a_.2 b_.2 (by decide)) Bm).mono ?_
 rintro e u10 ⟨rfl, -, -, hB, hK⟩
 replace hK : Kept u9 u10 (Iv u3.heap.size u4.heap.size) := kept_iv hK (fun k_ h_ => h_.elim (fun h_ => h_.1) (fun h_ => h_.1))
 have bx0 := blk_past (blk_below bx0 (zB (w := W6) (w' := u9))) hK (by have := z0.out; have := zl.out; have := zm.out; have := z1.out; have := z2.out; have := zw3.out; have := z3.out; have := zg3.out; have := zh3.out; have := z4.out; have := z4b.out; have := z5.out; have := z5b.out; have := z6.out; have := z6b.out; have := z7.out; have := z8.out; have := z9.out; omega)
 have bx1 := blk_past (blk_below bx1 (zB (w := W6) (w' := u9))) hK (by have := z0.out; have := zl.out; have := zm.out; have := z1.out; have := z2.out; have := zw3.out; have := z3.out; have := zg3.out; have := zh3.out; have := z4.out; have := z4b.out; have := z5.out; have := z5b.out; have := z6.out; have := z6b.out; have := z7.out; have := z8.out; have := z9.out; omega)
 have bxs := blk_past (blk_below bxs (zB (w := W6) (w' := u9))) hK (by have := z0.out; have := zl.out; have := zm.out; have := z1.out; have := z2.out; have := zw3.out; have := z3.out; have := zg3.out; have := zh3.out; have := z4.out; have := z4b.out; have := z5.out; have := z5b.out; have := z6.out; have := z6b.out; have := z7.out; have := z8.out; have := z9.out; omega)
 have bxx := blk_past (blk_below bxx (zB (w := W6) (w' := u9))) hK (by have := z0.out; have := zl.out; have := zm.out; have := z1.out; have := z2.out; have := zw3.out; have := z3.out; have := zg3.out; have := zh3.out; have := z4.out; have := z4b.out; have := z5.out; have := z5b.out; have := z6.out; have := z6b.out; have := z7.out; have := z8.out; have := z9.out; omega)
 have bxy := blk_past (blk_below bxy (zB (w := W6) (w' := u9))) hK (by have := z0.out; have := zl.out; have := zm.out; have := z1.out; have := z2.out; have := zw3.out; have := z3.out; have := zg3.out; have := zh3.out; have := z4.out; have := z4b.out; have := z5.out; have := z5b.out; have := z6.out; have := z6b.out; have := z7.out; have := z8.out; have := z9.out; omega)
 have bxg := blk_past (blk_below bxg (zB (w := W6) (w' := u9))) hK (by have := z0.out; have := zl.out; have := zm.out; have := z1.out; have := z2.out; have := zw3.out; have := z3.out; have := zg3.out; have := zh3.out; have := z4.out; have := z4b.out; have := z5.out; have := z5b.out; have := z6.out; have := z6b.out; have := z7.out; have := z8.out; have := z9.out; omega)
 have sH10_0 := Kd.N_lower (N_iv so0 (zB (w := u3) (w' := u9))) (show w.heap.size ≤ _ by have := z0.out; have := zl.out; have := zm.out; have := z1.out; have := z2.out; have := zw3.out; have := z3.out; have := zg3.out; have := zh3.out; have := z4.out; have := z4b.out; have := z5.out; have := z5b.out; have := z6.out; have := z6b.out; have := z7.out; have := z8.out; have := z9.out; omega)
 have sH10_1 := Kd.N_lower (N_iv so1 (zB (w := u3) (w' := u9))) (show w.heap.size ≤ _ by have := z0.out; have := zl.out; have := zm.out; have := z1.out; have := z2.out; have := zw3.out; have := z3.out; have := zg3.out; have := zh3.out; have := z4.out; have := z4b.out; have := z5.out; have := z5b.out; have := z6.out; have := z6b.out; have := z7.out; have := z8.out; have := z9.out; omega)
 have sH10_0_10 := N_past sH10_0 hK (by have := z0.out; have := zl.out; have := zm.out; have := z1.out; have := z2.out; have := zw3.out; have := z3.out; have := zg3.out; have := zh3.out; have := z4.out; have := z4b.out; have := z5.out; have := z5b.out; have := z6.out; have := z6b.out; have := z7.out; have := z8.out; have := z9.out; omega)
 have sC0 := (Kd.N_reads' sH10_0_10).2.2
 have sH10_1_10 := N_past sH10_1 hK (by have := z0.out; have := zl.out; have := zm.out; have := z1.out; have := z2.out; have := zw3.out; have := z3.out; have := zg3.out; have := zh3.out; have := z4.out; have := z4b.out; have := z5.out; have := z5b.out; have := z6.out; have := z6b.out; have := z7.out; have := z8.out; have := z9.out; omega)
 have sC1 := (Kd.N_reads' sH10_1_10).2.2
 have gH10_0 := Kd.R_lower (R_iv go0 (zB (w := u6) (w' := u9))) (show w.heap.size ≤ _ by have := z0.out; have := zl.out; have := zm.out; have := z1.out; have := z2.out; have := zw3.out; have := z3.out; have := zg3.out; have := zh3.out; have := z4.out; have := z4b.out; have := z5.out; have := z5b.out; have := z6.out; have := z6b.out; have := z7.out; have := z8.out; have := z9.out; omega)
 have gH10_1 := Kd.S_lower (S_iv go1 (zB (w := u6) (w' := u9))) (show w.heap.size ≤ _ by have := z0.out; have := zl.out; have := zm.out; have := z1.out; have := z2.out; have := zw3.out; have := z3.out; have := zg3.out; have := zh3.out; have := z4.out; have := z4b.out; have := z5.out; have := z5b.out; have := z6.out; have := z6b.out; have := z7.out; have := z8.out; have := z9.out; omega)
 have gH10_0_10 := R_past gH10_0 hK (by have := z0.out; have := zl.out; have := zm.out; have := z1.out; have := z2.out; have := zw3.out; have := z3.out; have := zg3.out; have := zh3.out; have := z4.out; have := z4b.out; have := z5.out; have := z5b.out; have := z6.out; have := z6b.out; have := z7.out; have := z8.out; have := z9.out; omega)
 have gC0 := (Kd.R_reads' gH10_0_10).2.2
 have gH10_1_10 := S_past gH10_1 hK (by have := z0.out; have := zl.out; have := zm.out; have := z1.out; have := z2.out; have := zw3.out; have := z3.out; have := zg3.out; have := zh3.out; have := z4.out; have := z4b.out; have := z5.out; have := z5b.out; have := z6.out; have := z6b.out; have := z7.out; have := z8.out; have := z9.out; omega)
 have gC1 := (Kd.S_reads' gH10_1_10).2.2
 have yH10_0 := Kd.R_lower (R_iv yo1 (zB (w := u5) (w' := u9))) (show w.heap.size ≤ _ by have := z0.out; have := zl.out; have := zm.out; have := z1.out; have := z2.out; have := zw3.out; have := z3.out; have := zg3.out; have := zh3.out; have := z4.out; have := z4b.out; have := z5.out; have := z5b.out; have := z6.out; have := z6b.out; have := z7.out; have := z8.out; have := z9.out; omega)
 have yH10_0_10 := R_past yH10_0 hK (by have := z0.out; have := zl.out; have := zm.out; have := z1.out; have := z2.out; have := zw3.out; have := z3.out; have := zg3.out; have := zh3.out; have := z4.out; have := z4b.out; have := z5.out; have := z5b.out; have := z6.out; have := z6b.out; have := z7.out; have := z8.out; have := z9.out; omega)
 have yC0 := (Kd.R_reads' yH10_0_10).2.2
 have HB := hB
 have z10 := aM hK.1
 clear HA
 clear qbx0_0 qbx0_1
 clear qbx1_0 qbx1_1
 clear qbxs_0 qbxs_1
 clear qbxx_0 qbxx_1
 clear qbxy_0 qbxy_1
 clear qbxg_0 qbxg_1
 have qbx0_0 := qa (w := u10) ((blk_cell bx0 0).trans rfl)
 have qbx0_1 := qa (w := u10) ((blk_cell bx0 1).trans rfl)
 have qbx1_0 := qa (w := u10) ((blk_cell bx1 0).trans rfl)
 have qbx1_1 := qa (w := u10) ((blk_cell bx1 1).trans rfl)
 have qbxs_0 := qa (w := u10) ((blk_cell bxs 0).trans rfl)
 have qbxs_1 := qa (w := u10) ((blk_cell bxs 1).trans rfl)
 have qbxx_0 := qa (w := u10) ((blk_cell bxx 0).trans rfl)
 have qbxx_1 := qa (w := u10) ((blk_cell bxx 1).trans rfl)
 have qbxy_0 := qa (w := u10) ((blk_cell bxy 0).trans rfl)
 have qbxy_1 := qa (w := u10) ((blk_cell bxy 1).trans rfl)
 have qbxg_0 := qa (w := u10) ((blk_cell bxg 0).trans rfl)
 have qbxg_1 := qa (w := u10) ((blk_cell bxg 1).trans rfl)
 have HA := Below.refl u10.heap.size u10
 have yH10_0 := R_at yH10_0_10 (zB (w := u10) (w' := u10))
 go_wp2_with fail
 refine (laws_markFact.calls k _ _ _ _ m1 _ _ w _ HB yH10_0 Bmx).mono ?_
 rintro e u11 ⟨rfl, -, hB, hK⟩
 replace hK : Kept u10 u11 (Iv W4.heap.size u5.heap.size) := kept_iv hK (fun k_ h_ => h_.1)
 have bx0 := blk_past (blk_below bx0 (zB (w := u10) (w' := u10))) hK (by have := z0.out; have := zl.out; have := zm.out; have := z1.out; have := z2.out; have := zw3.out; have := z3.out; have := zg3.out; have := zh3.out; have := z4.out; have := z4b.out; have := z5.out; have := z5b.out; have := z6.out; have := z6b.out; have := z7.out; have := z8.out; have := z9.out; have := z10.out; omega)
 have bx1 := blk_past (blk_below bx1 (zB (w := u10) (w' := u10))) hK (by have := z0.out; have := zl.out; have := zm.out; have := z1.out; have := z2.out; have := zw3.out; have := z3.out; have := zg3.out; have := zh3.out; have := z4.out; have := z4b.out; have := z5.out; have := z5b.out; have := z6.out; have := z6b.out; have := z7.out; have := z8.out; have := z9.out; have := z10.out; omega)
 have bxs := blk_past (blk_below bxs (zB (w := u10) (w' := u10))) hK (by have := z0.out; have := zl.out; have := zm.out; have := z1.out; have := z2.out; have := zw3.out; have := z3.out; have := zg3.out; have := zh3.out; have := z4.out; have := z4b.out; have := z5.out; have := z5b.out; have := z6.out; have := z6b.out; have := z7.out; have := z8.out; have := z9.out; have := z10.out; omega)
 have bxx := blk_past (blk_below bxx (zB (w := u10) (w' := u10))) hK (by have := z0.out; have := zl.out; have := zm.out; have := z1.out; have := z2.out; have := zw3.out; have := z3.out; have := zg3.out; have := zh3.out; have := z4.out; have := z4b.out; have := z5.out; have := z5b.out; have := z6.out; have := z6b.out; have := z7.out; have := z8.out; have := z9.out; have := z10.out; omega)
 have bxy := blk_past (blk_below bxy (zB (w := u10) (w' := u10))) hK (by have := z0.out; have := zl.out; have := zm.out; have := z1.out; have := z2.out; have := zw3.out; have := z3.out; have := zg3.out; have := zh3.out; have := z4.out; have := z4b.out; have := z5.out; have := z5b.out; have := z6.out; have := z6b.out; have := z7.out; have := z8.out; have := z9.out; have := z10.out; omega)
 have bxg := blk_past (blk_below bxg (zB (w := u10) (w' := u10))) hK (by have := z0.out; have := zl.out; have := zm.out; have := z1.out; have := z2.out; have := zw3.out; have := z3.out; have := zg3.out; have := zh3.out; have := z4.out; have := z4b.out; have := z5.out; have := z5b.out; have := z6.out; have := z6b.out; have := z7.out; have := z8.out; have := z9.out; have := z10.out; omega)
 have sH11_0 := N_atq sH10_0_10 (zB (w := u10) (w' := u10))
 have sH11_1 := N_atq sH10_1_10 (zB (w := u10) (w' := u10))
 have sH11_0_11 := N_past sH11_0 hK (by have := z0.out; have := zl.out; have := zm.out; have := z1.out; have := z2.out; have := zw3.out; have := z3.out; have := zg3.out; have := zh3.out; have := z4.out; have := z4b.out; have := z5.out; have := z5b.out; have := z6.out; have := z6b.out; have := z7.out; have := z8.out; have := z9.out; have := z10.out; omega)
 have sC0 := (Kd.N_reads' sH11_0_11).2.2
 have sH11_1_11 := N_past sH11_1 hK (by have := z0.out; have := zl.out; have := zm.out; have := z1.out; have := z2.out; have := zw3.out; have := z3.out; have := zg3.out; have := zh3.out; have := z4.out; have := z4b.out; have := z5.out; have := z5b.out; have := z6.out; have := z6b.out; have := z7.out; have := z8.out; have := z9.out; have := z10.out; omega)
 have sC1 := (Kd.N_reads' sH11_1_11).2.2
 have gH11_0 := R_at gH10_0_10 (zB (w := u10) (w' := u10))
 have gH11_1 := S_at gH10_1_10 (zB (w := u10) (w' := u10))
 have gH11_0_11 := R_past gH11_0 hK (by have := z0.out; have := zl.out; have := zm.out; have := z1.out; have := z2.out; have := zw3.out; have := z3.out; have := zg3.out; have := zh3.out; have := z4.out; have := z4b.out; have := z5.out; have := z5b.out; have := z6.out; have := z6b.out; have := z7.out; have := z8.out; have := z9.out; have := z10.out; omega)
 have gC0 := (Kd.R_reads' gH11_0_11).2.2
 have gH11_1_11 := S_past gH11_1 hK (by have := z0.out; have := zl.out; have := zm.out; have := z1.out; have := z2.out; have := zw3.out; have := z3.out; have := zg3.out; have := zh3.out; have := z4.out; have := z4b.out; have := z5.out; have := z5b.out; have := z6.out; have := z6b.out; have := z7.out; have := z8.out; have := z9.out; have := z10.out; omega)
 have gC1 := (Kd.S_reads' gH11_1_11).2.2
 have HB := hB
 have z11 := aM hK.1
 clear HA
 clear qbx0_0 qbx0_1
 clear qbx1_0 qbx1_1
 clear qbxs_0 qbxs_1
 clear qbxx_0 qbxx_1
 clear qbxy_0 qbxy_1
 clear qbxg_0 qbxg_1
 have qbx0_0 := qa (w := u11) ((blk_cell bx0 0).trans rfl)
 have qbx0_1 := qa (w := u11) ((blk_cell bx0 1).trans rfl)
 have qbx1_0 := qa (w := u11) ((blk_cell bx1 0).trans rfl)
 have qbx1_1 := qa (w := u11) ((blk_cell bx1 1).trans rfl)
 have qbxs_0 := qa (w := u11) ((blk_cell bxs 0).trans rfl)
 have qbxs_1 := qa (w := u11) ((blk_cell bxs 1).trans rfl)
 have qbxx_0 := qa (w := u11) ((blk_cell bxx 0).trans rfl)
 have qbxx_1 := qa (w := u11) ((blk_cell bxx 1).trans rfl)
 have qbxy_0 := qa (w := u11) ((blk_cell bxy 0).trans rfl)
 have qbxy_1 := qa (w := u11) ((blk_cell bxy 1).trans rfl)
 have qbxg_0 := qa (w := u11) ((blk_cell bxg 0).trans rfl)
 have qbxg_1 := qa (w := u11) ((blk_cell bxg 1).trans rfl)
 have HA := Below.refl u11.heap.size u11
 go_wp2_with fail
 refine (laws_eqDatabase.calls ?_ _ _ _ _ _ _ _ _ _ _ _ _ ?_ _ ?_ ?_ ?_ ?_ ?_ ?_ ?_ ?_ ?h).mono ?_; (case h => exact zA)
 (iterate 8 (first | exact zC | exact zA))
 rintro e u12 ⟨rfl, hb⟩
 replace hb := aM hb
 have z12 := aM hb.out.size
 have HA : Below u11.heap.size u11 u12 := zB
 have HB : Below w.heap.size w u12 := zB
 have gH12_0 := R_at gH11_0_11 (zB (w := u11) (w' := u12))
 have gH12_1 := S_at gH11_1_11 (zB (w := u11) (w' := u12))
 go_wp2_with fail
 refine (laws_markDatabase.calls k _ _ _ _ _ _ 1 _ _ _ w _ HB gH12_0 gH12_1 (fun k_ a_ b_ => Ty.ne a_.2 b_.2 (by decide)) Bn).mono ?_
 rintro e u13 ⟨rfl, mR0, mR1, hB, hK⟩
 replace hK : Kept u12 u13 (Iv W5.heap.size u6.heap.size) := kept_iv hK (fun k_ h_ => h_.elim (fun h_ => h_.1) (fun h_ => h_.1))
 have bx0 := blk_past (blk_below bx0 (zB (w := u11) (w' := u12))) hK (by have := z0.out; have := zl.out; have := zm.out; have := z1.out; have := z2.out; have := zw3.out; have := z3.out; have := zg3.out; have := zh3.out; have := z4.out; have := z4b.out; have := z5.out; have := z5b.out; have := z6.out; have := z6b.out; have := z7.out; have := z8.out; have := z9.out; have := z10.out; have := z11.out; have := z12.out; omega)
 have bx1 := blk_past (blk_below bx1 (zB (w := u11) (w' := u12))) hK (by have := z0.out; have := zl.out; have := zm.out; have := z1.out; have := z2.out; have := zw3.out; have := z3.out; have := zg3.out; have := zh3.out; have := z4.out; have := z4b.out; have := z5.out; have := z5b.out; have := z6.out; have := z6b.out; have := z7.out; have := z8.out; have := z9.out; have := z10.out; have := z11.out; have := z12.out; omega)
 have bxs := blk_past (blk_below bxs (zB (w := u11) (w' := u12))) hK (by have := z0.out; have := zl.out; have := zm.out; have := z1.out; have := z2.out; have := zw3.out; have := z3.out; have := zg3.out; have := zh3.out; have := z4.out; have := z4b.out; have := z5.out; have := z5b.out; have := z6.out; have := z6b.out; have := z7.out; have := z8.out; have := z9.out; have := z10.out; have := z11.out; have := z12.out; omega)
 have bxx := blk_past (blk_below bxx (zB (w := u11) (w' := u12))) hK (by have := z0.out; have := zl.out; have := zm.out; have := z1.out; have := z2.out; have := zw3.out; have := z3.out; have := zg3.out; have := zh3.out; have := z4.out; have := z4b.out; have := z5.out; have := z5b.out; have := z6.out; have := z6b.out; have := z7.out; have := z8.out; have := z9.out; have := z10.out; have := z11.out; have := z12.out; omega)
 have bxy := blk_past (blk_below bxy (zB (w := u11) (w' := u12))) hK (by have := z0.out; have := zl.out; have := zm.out; have := z1.out; have := z2.out; have := zw3.out; have := z3.out; have := zg3.out; have := zh3.out; have := z4.out; have := z4b.out; have := z5.out; have := z5b.out; have := z6.out; have := z6b.out; have := z7.out; have := z8.out; have := z9.out; have := z10.out; have := z11.out; have := z12.out; omega)
 have bxg := blk_past (blk_below bxg (zB (w := u11) (w' := u12))) hK (by have := z0.out; have := zl.out; have := zm.out; have := z1.out; have := z2.out; have := zw3.out; have := z3.out; have := zg3.out; have := zh3.out; have := z4.out; have := z4b.out; have := z5.out; have := z5b.out; have := z6.out; have := z6b.out; have := z7.out; have := z8.out; have := z9.out; have := z10.out; have := z11.out; have := z12.out; omega)
 have sH13_0 := N_atq sH11_0_11 (zB (w := u11) (w' := u12))
 have sH13_1 := N_atq sH11_1_11 (zB (w := u11) (w' := u12))
 have sH13_0_13 := N_past sH13_0 hK (by have := z0.out; have := zl.out; have := zm.out; have := z1.out; have := z2.out; have := zw3.out; have := z3.out; have := zg3.out; have := zh3.out; have := z4.out; have := z4b.out; have := z5.out; have := z5b.out; have := z6.out; have := z6b.out; have := z7.out; have := z8.out; have := z9.out; have := z10.out; have := z11.out; have := z12.out; omega)
 have sC0 := (Kd.N_reads' sH13_0_13).2.2
 have sH13_1_13 := N_past sH13_1 hK (by have := z0.out; have := zl.out; have := zm.out; have := z1.out; have := z2.out; have := zw3.out; have := z3.out; have := zg3.out; have := zh3.out; have := z4.out; have := z4b.out; have := z5.out; have := z5b.out; have := z6.out; have := z6b.out; have := z7.out; have := z8.out; have := z9.out; have := z10.out; have := z11.out; have := z12.out; omega)
 have sC1 := (Kd.N_reads' sH13_1_13).2.2
 have HB := hB
 have z13 := aM hK.1
 clear HA
 clear qbx0_0 qbx0_1
 clear qbx1_0 qbx1_1
 clear qbxs_0 qbxs_1
 clear qbxx_0 qbxx_1
 clear qbxy_0 qbxy_1
 clear qbxg_0 qbxg_1
 have qbx0_0 := qa (w := u13) ((blk_cell bx0 0).trans rfl)
 have qbx0_1 := qa (w := u13) ((blk_cell bx0 1).trans rfl)
 have qbx1_0 := qa (w := u13) ((blk_cell bx1 0).trans rfl)
 have qbx1_1 := qa (w := u13) ((blk_cell bx1 1).trans rfl)
 have qbxs_0 := qa (w := u13) ((blk_cell bxs 0).trans rfl)
 have qbxs_1 := qa (w := u13) ((blk_cell bxs 1).trans rfl)
 have qbxx_0 := qa (w := u13) ((blk_cell bxx 0).trans rfl)
 have qbxx_1 := qa (w := u13) ((blk_cell bxx 1).trans rfl)
 have qbxy_0 := qa (w := u13) ((blk_cell bxy 0).trans rfl)
 have qbxy_1 := qa (w := u13) ((blk_cell bxy 1).trans rfl)
 have qbxg_0 := qa (w := u13) ((blk_cell bxg 0).trans rfl)
 have qbxg_1 := qa (w := u13) ((blk_cell bxg 1).trans rfl)
 have HA := Below.refl u13.heap.size u13
 have nE0 := (Kd.R_reads' mR0).1
 have nC0 := (Kd.R_reads' mR0).2.2
 have nL0 : n2.length ≤ gc0 := nE0 ▸ gl0
 have nX0 := aM nE0
 clear nE0 mR0
 have nE1 := (Kd.S_reads' mR1).1
 have nC1 := (Kd.S_reads' mR1).2.2
 have nL1 : n3.length ≤ gc1 := nE1 ▸ gl1
 have nX1 := aM nE1
 clear nE1 mR1
 go_wp2_with fail
 have hc := laws_heldDatabase.calls k gA0 gc0 n2 gA1 gc1 n3 1 q u13 zC nL0 zC nL1 Bq
 rw [← nX0.out] at hc
 rw [← nX1.out] at hc
 refine hc.mono ?_
 clear hc
 rintro e u14 ⟨rfl, hb⟩
 replace hb := aM hb
 have z14 := aM hb.out.size
 have HA : Below u13.heap.size u13 u14 := zB
 have HB : Below w.heap.size w u14 := zB
 go_wp2_with fail
 refine nw (w0 := w) zB ?_
 intro Wd15 HB hb hd
 have HA : Below u13.heap.size u13 Wd15 := zB
 have zw15 := aM hb.out.size
 go_cut [15, 16] (fun va_ vb_ wc => ∃ (gs_ : Nat) (A0_ : Option Addr) (c0_ : Nat) (A1_ : Option Addr) (c1_ : Nat), va_ = .pointer (some ⟨gs_, 0, none⟩) ∧ vb_ = .bool gb ∧ Aside0 (Kd.N k74 74 wc Wd15.heap.size (fun k_ => Wd15.heap.size ≤ k_) (.slice A0_ g1.length c0_) g1) ∧ Aside0 (Kd.N k45 45 wc Wd15.heap.size (fun k_ => Wd15.heap.size ≤ k_) (.slice A1_ g2.length c1_) g2) ∧ Aside0 (wc.heap[gs_]? = some (.cells #[.slice A0_ g1.length c0_, .slice A1_ g2.length c1_] 31 (0, 0))) ∧ Aside0 (Wd15.heap.size ≤ gs_) ∧ Aside0 (Below Wd15.heap.size Wd15 wc))
 case first =>
  have rG_ := @bcl u13
  have rD_ := @bdr u13
  refine Txt.rgT (id := 31) (.one 0 (.one 2 (.two 1 8 (.two 3 8 (.two 4 8 (.one 5 (.one 6 (.one 7 (.one 8 (.one 9 (.one 10 (.nil))))))) (.one 4 (.one 5 (.one 6 (.one 7 (.one 9 (.one 10 (.nil)))))))) (.one 3 (.one 4 (.one 5 (.one 6 (.one 7 (.one 9 (.one 10 (.nil))))))))) (.one 1 (.one 3 (.one 4 (.one 5 (.one 6 (.one 7 (.one 9 (.one 10 (.nil)))))))))))) (by kernel_rfl) (by kernel_rfl) ?_
  simp only [Txt.Tr.ops, List.getD_cons_zero, List.getD_cons_succ]
  refine Txt.takeT rfl rfl ?_; intro K hK; go_big_quiet_op; go_big_quiet_on
  refine Txt.takeT rfl rfl ?_; intro K hK; go_big_quiet_op; go_big_quiet_on
  refine Txt.twoT ?_ ?_
  ·refine Txt.callT rfl rfl Try.func9 (by kernel_rfl) rfl (laws_toDatabase.calls ?_ _ _ _ _ _ _ ?_ ?_ _ ?_ ?_ ?_ ?_ ?h) rfl ?_; (case h => exact zA); (iterate 4 (first | exact zC | exact zA)); rintro e f15_1 ⟨v0, v1, rfl, ho0, ho1, hb⟩; obtain ⟨A0, c0, rfl, hc0, hC0⟩ := (show ∃ A_ c_, v0 = .slice A_ _ c_ ∧ _ ≤ c_ ∧ Kd.C _ _ A_ _ _ from (by first | exact Kd.R_reads ho0 | exact Kd.R_reads (Kd.S_R ho0) | exact Kd.N_reads ho0)); obtain ⟨A1, c1, rfl, hc1, hC1⟩ := (show ∃ A_ c_, v1 = .slice A_ _ c_ ∧ _ ≤ c_ ∧ Kd.C _ _ A_ _ _ from (by first | exact Kd.R_reads ho1 | exact Kd.R_reads (Kd.S_R ho1) | exact Kd.N_reads ho1)); replace hb := aM hb; have HA : Below u13.heap.size u13 f15_1 := zB; have HB : Below w.heap.size w f15_1 := zB; have HW_ : Below Wd15.heap.size Wd15 f15_1 := zB; refine ⟨_, rfl, zS, ?_⟩; simp only [Act.put, List.setIfInBounds_toArray, List.set_cons_zero, List.set_cons_succ]
   refine Txt.twoT ?_ ?_
   ·refine Txt.callT rfl rfl Try.func19 (by kernel_rfl) rfl (laws_toFact.calls ?_ _ _ _ _ ?_ ?_ _ ?_ ?_ ?h) rfl ?_; (case h => exact zA); (iterate 2 (first | exact zC | exact zA)); rintro e f15_2 ⟨v1, rfl, ho1, hb⟩; obtain ⟨A1, c1, rfl, hc1, hC1⟩ := (show ∃ A_ c_, v1 = .slice A_ _ c_ ∧ _ ≤ c_ ∧ Kd.C _ _ A_ _ _ from (by first | exact Kd.R_reads ho1 | exact Kd.R_reads (Kd.S_R ho1) | exact Kd.N_reads ho1)); replace hb := aM hb; have HA : Below u13.heap.size u13 f15_2 := zB; have HB : Below w.heap.size w f15_2 := zB; have HW_ : Below Wd15.heap.size Wd15 f15_2 := zB; refine ⟨_, rfl, zS, ?_⟩; simp only [Act.put, List.setIfInBounds_toArray, List.set_cons_zero, List.set_cons_succ]
    refine Txt.twoT ?_ ?_
    ·refine Txt.callT rfl rfl Try.func20 (by kernel_rfl) rfl (impl_InsertFact.calls ?_ _ _ _ _ _ _ _ _ _ _ ?_ ?_ ?_ _ ?_ ?_ ?_ ?_ ?_ ?_ ?h) rfl ?_; (case h => exact zA); (iterate 6 (first | exact zC | exact zA)); rintro e f15_3 ⟨v0, v1, rfl, ho0, ho1, hb⟩; obtain ⟨A0, c0, rfl, hc0, hC0⟩ := (show ∃ A_ c_, v0 = .slice A_ _ c_ ∧ _ ≤ c_ ∧ Kd.C _ _ A_ _ _ from (by first | exact Kd.R_reads ho0 | exact Kd.R_reads (Kd.S_R ho0) | exact Kd.N_reads ho0)); obtain ⟨A1, c1, rfl, hc1, hC1⟩ := (show ∃ A_ c_, v1 = .slice A_ _ c_ ∧ _ ≤ c_ ∧ Kd.C _ _ A_ _ _ from (by first | exact Kd.R_reads ho1 | exact Kd.R_reads (Kd.S_R ho1) | exact Kd.N_reads ho1)); replace hb := aM hb; have HA : Below u13.heap.size u13 f15_3 := zB; have HB : Below w.heap.size w f15_3 := zB; have HW_ : Below Wd15.heap.size Wd15 f15_3 := zB; refine ⟨_, rfl, zS, ?_⟩; simp only [Act.put, List.setIfInBounds_toArray, List.set_cons_zero, List.set_cons_succ]
     have HS0 : Kd.N k74 74 f15_3 Wd15.heap.size (fun k_ => Wd15.heap.size ≤ k_ ∧ f15_2.heap.size ≤ k_) _ _ := Kd.N_lower (by have hs_ := Below.size (zB (w := Wd15) (w' := f15_2)); first | exact Kd.R_N (Kd.R_mono (Kd.R_bound ho0) (fun k hk => ⟨Nat.le_trans hs_ hk.2.1, hk.2.1⟩)) | exact Kd.S_N (Kd.S_mono (Kd.S_bound ho0) (fun k hk => ⟨Nat.le_trans hs_ hk.2.1, hk.2.1⟩)) | exact Kd.N_mono ho0 (fun k hk => ⟨Nat.le_trans hs_ hk.1, hk.1⟩)) (Below.size (zB (w := Wd15) (w' := f15_2)))
     have HS1 : Kd.N k45 45 f15_3 Wd15.heap.size (fun k_ => Wd15.heap.size ≤ k_ ∧ f15_2.heap.size ≤ k_) _ _ := Kd.N_lower (by have hs_ := Below.size (zB (w := Wd15) (w' := f15_2)); first | exact Kd.R_N (Kd.R_mono (Kd.R_bound ho1) (fun k hk => ⟨Nat.le_trans hs_ hk.2.1, hk.2.1⟩)) | exact Kd.S_N (Kd.S_mono (Kd.S_bound ho1) (fun k hk => ⟨Nat.le_trans hs_ hk.2.1, hk.2.1⟩)) | exact Kd.N_mono ho1 (fun k hk => ⟨Nat.le_trans hs_ hk.1, hk.1⟩)) (Below.size (zB (w := Wd15) (w' := f15_2)))
     refine Txt.takeT rfl rfl ?_; intro K hK; go_big_quiet_op; go_big_quiet_on
     refine Txt.takeT rfl rfl ?_; intro K hK; go_big_quiet_op; go_big_quiet_on
     refine Txt.takeT rfl rfl ?_; intro K hK; go_big_quiet_op; go_big_quiet_on
     refine Txt.stepT rfl ?_ zS; intro K hK hS_; refine box_step ?hg (N := 15) ?hd (cs := #[.slice none 0 0, .slice none 0 0]) (t := 31) ?hr ?_; (case hd => rfl); (case hg => rfl); (case hr => first | (go_simp; done) | (go_simp; rfl)); intro gs_ hgs f15_4 BX hb; have BX0_ := aM hgs; replace hb := aM hb; have HA : Below u13.heap.size u13 f15_4 := zB; have HB : Below w.heap.size w f15_4 := zB; have HW_ : Below Wd15.heap.size Wd15 f15_4 := zB
     have hge_ := aM (show Wd15.heap.size ≤ gs_ by rw [hgs]; exact Below.size (zB (w := Wd15) (w' := f15_3))); clear hgs
     replace HS0 := Kd.N_below (Kd.N_mono (Kd.N_bound HS0) (ok' := fun k_ => Wd15.heap.size ≤ k_ ∧ k_ ≠ gs_) (fun k hk => ⟨hk.1.1, fun e_ => by have := hk.2; have := BX0_.out; omega⟩)) hb.out
     replace HS1 := Kd.N_below (Kd.N_mono (Kd.N_bound HS1) (ok' := fun k_ => Wd15.heap.size ≤ k_ ∧ k_ ≠ gs_) (fun k hk => ⟨hk.1.1, fun e_ => by have := hk.2; have := BX0_.out; omega⟩)) hb.out
     refine hK _ _ zS ?_
     simp only [Act.put, List.setIfInBounds_toArray, List.set_cons_zero, List.set_cons_succ]
     have hcz0 : f15_4.cell? ⟨gs_, 0, none⟩ = some (.slice none 0 0) := (blk_cell BX 0).trans rfl
     have hfz0 := blk_frozen BX 0
     have hcz1 : f15_4.cell? ⟨gs_, 1, none⟩ = some (.slice none 0 0) := (blk_cell BX 1).trans rfl
     have hfz1 := blk_frozen BX 1
     have BX2 := blk_put (cs := #[.slice A0 g1.length c0, .slice none 0 0]) (blk_put (cs := #[.slice none 0 0, .slice none 0 0]) BX 0 (.slice A0 g1.length c0) rfl) 1 (.slice A1 g2.length c1) rfl
     have HB2 : Below Wd15.heap.size Wd15 ((f15_4.setCell ⟨gs_, 0, none⟩ (.slice A0 g1.length c0)).setCell ⟨gs_, 1, none⟩ (.slice A1 g2.length c1)) := below_set (below_set (zB (w := Wd15) (w' := f15_4)) hge_.out) hge_.out
     refine Txt.stepT rfl ?_ zS; intro K hK hS_; refine skip_ (w1 := ?_) (by rfl) rfl ?_ ?_
     rotate_left
     ·(go_simp; rfl)
     refine hK _ _ (regrown_of_below HB2) ?_
     refine Txt.takeT rfl rfl ?_; intro K hK; go_big_quiet_op; go_big_quiet_on
     refine Txt.nilT ?_
     (try go_wp2)
     go_meet
     case rel => exact ⟨gs_, _, _, _, _, rfl, rfl, ⟨Kd.N_mono (Kd.N_far (p := ⟨gs_, 1, none⟩) (Kd.N_far (p := ⟨gs_, 0, none⟩) (Kd.N_mono HS0 (fun _ hk => (⟨hk.1, hk.2⟩ : _ ∧ _))) (fun _ hk => hk.2) _) (fun _ hk => hk.2) _) (fun _ hk => hk.1)⟩, ⟨Kd.N_mono (Kd.N_far (p := ⟨gs_, 1, none⟩) (Kd.N_far (p := ⟨gs_, 0, none⟩) (Kd.N_mono HS1 (fun _ hk => (⟨hk.1, hk.2⟩ : _ ∧ _))) (fun _ hk => hk.2) _) (fun _ hk => hk.2) _) (fun _ hk => hk.1)⟩, ⟨BX2⟩, hge_, ⟨HB2⟩⟩
    ·refine Txt.stepT rfl ?_ zS; intro K hK hS_; refine box_step ?hg (N := 15) ?hd (cs := #[.slice none 0 0, .slice none 0 0]) (t := 31) ?hr ?_; (case hd => rfl); (case hg => rfl); (case hr => first | (go_simp; done) | (go_simp; rfl)); intro gs_ hgs f15_6 BX hb; have BX0_ := aM hgs; replace hb := aM hb; have HA : Below u13.heap.size u13 f15_6 := zB; have HB : Below w.heap.size w f15_6 := zB; have HW_ : Below Wd15.heap.size Wd15 f15_6 := zB
     have hge_ := aM (show Wd15.heap.size ≤ gs_ by rw [hgs]; exact Below.size (zB (w := Wd15) (w' := f15_2))); clear hgs
     refine hK _ _ zS ?_
     simp only [Act.put, List.setIfInBounds_toArray, List.set_cons_zero, List.set_cons_succ]
     have hglt_ := aM (blk_lt BX)
     refine Txt.callT rfl rfl Try.func20 (by kernel_rfl) rfl (impl_InsertFact.calls ?_ _ _ _ _ _ _ _ _ _ _ ?_ ?_ ?_ _ ?_ ?_ ?_ ?_ ?_ ?_ ?h) rfl ?_; (case h => exact zA); (iterate 6 (first | exact zC | exact zA)); rintro e f15_7 ⟨v0, v1, rfl, ho0, ho1, hb⟩; obtain ⟨A0, c0, rfl, hc0, hC0⟩ := (show ∃ A_ c_, v0 = .slice A_ _ c_ ∧ _ ≤ c_ ∧ Kd.C _ _ A_ _ _ from (by first | exact Kd.R_reads ho0 | exact Kd.R_reads (Kd.S_R ho0) | exact Kd.N_reads ho0)); obtain ⟨A1, c1, rfl, hc1, hC1⟩ := (show ∃ A_ c_, v1 = .slice A_ _ c_ ∧ _ ≤ c_ ∧ Kd.C _ _ A_ _ _ from (by first | exact Kd.R_reads ho1 | exact Kd.R_reads (Kd.S_R ho1) | exact Kd.N_reads ho1)); replace hb := aM hb; have HA : Below u13.heap.size u13 f15_7 := zB; have HB : Below w.heap.size w f15_7 := zB; have HW_ : Below Wd15.heap.size Wd15 f15_7 := zB; refine ⟨_, rfl, zS, ?_⟩; simp only [Act.put, List.setIfInBounds_toArray, List.set_cons_zero, List.set_cons_succ]
     replace BX := blk_below BX hb.out
     have HS0 : Kd.N k74 74 f15_7 Wd15.heap.size (fun k_ => Wd15.heap.size ≤ k_ ∧ f15_6.heap.size ≤ k_) _ _ := Kd.N_lower (by have hs_ := Below.size (zB (w := Wd15) (w' := f15_6)); first | exact Kd.R_N (Kd.R_mono (Kd.R_bound ho0) (fun k hk => ⟨Nat.le_trans hs_ hk.2.1, hk.2.1⟩)) | exact Kd.S_N (Kd.S_mono (Kd.S_bound ho0) (fun k hk => ⟨Nat.le_trans hs_ hk.2.1, hk.2.1⟩)) | exact Kd.N_mono ho0 (fun k hk => ⟨Nat.le_trans hs_ hk.1, hk.1⟩)) (Below.size (zB (w := Wd15) (w' := f15_6)))
     have HS1 : Kd.N k45 45 f15_7 Wd15.heap.size (fun k_ => Wd15.heap.size ≤ k_ ∧ f15_6.heap.size ≤ k_) _ _ := Kd.N_lower (by have hs_ := Below.size (zB (w := Wd15) (w' := f15_6)); first | exact Kd.R_N (Kd.R_mono (Kd.R_bound ho1) (fun k hk => ⟨Nat.le_trans hs_ hk.2.1, hk.2.1⟩)) | exact Kd.S_N (Kd.S_mono (Kd.S_bound ho1) (fun k hk => ⟨Nat.le_trans hs_ hk.2.1, hk.2.1⟩)) | exact Kd.N_mono ho1 (fun k hk => ⟨Nat.le_trans hs_ hk.1, hk.1⟩)) (Below.size (zB (w := Wd15) (w' := f15_6)))
     replace HS0 := Kd.N_mono HS0 (ok' := fun k_ => Wd15.heap.size ≤ k_ ∧ k_ ≠ gs_) (fun k hk => ⟨hk.1, fun e_ => by have := hglt_.out; have := hk.2; omega⟩)
     replace HS1 := Kd.N_mono HS1 (ok' := fun k_ => Wd15.heap.size ≤ k_ ∧ k_ ≠ gs_) (fun k hk => ⟨hk.1, fun e_ => by have := hglt_.out; have := hk.2; omega⟩)
     refine Txt.takeT rfl rfl ?_; intro K hK; go_big_quiet_op; go_big_quiet_on
     refine Txt.takeT rfl rfl ?_; intro K hK; go_big_quiet_op; go_big_quiet_on
     refine Txt.takeT rfl rfl ?_; intro K hK; go_big_quiet_op; go_big_quiet_on
     have hcz0 : f15_7.cell? ⟨gs_, 0, none⟩ = some (.slice none 0 0) := (blk_cell BX 0).trans rfl
     have hfz0 := blk_frozen BX 0
     have hcz1 : f15_7.cell? ⟨gs_, 1, none⟩ = some (.slice none 0 0) := (blk_cell BX 1).trans rfl
     have hfz1 := blk_frozen BX 1
     have BX2 := blk_put (cs := #[.slice A0 g1.length c0, .slice none 0 0]) (blk_put (cs := #[.slice none 0 0, .slice none 0 0]) BX 0 (.slice A0 g1.length c0) rfl) 1 (.slice A1 g2.length c1) rfl
     have HB2 : Below Wd15.heap.size Wd15 ((f15_7.setCell ⟨gs_, 0, none⟩ (.slice A0 g1.length c0)).setCell ⟨gs_, 1, none⟩ (.slice A1 g2.length c1)) := below_set (below_set (zB (w := Wd15) (w' := f15_7)) hge_.out) hge_.out
     refine Txt.stepT rfl ?_ zS; intro K hK hS_; refine skip_ (w1 := ?_) (by rfl) rfl ?_ ?_
     rotate_left
     ·(go_simp; rfl)
     refine hK _ _ (regrown_of_below HB2) ?_
     refine Txt.takeT rfl rfl ?_; intro K hK; go_big_quiet_op; go_big_quiet_on
     refine Txt.nilT ?_
     (try go_wp2)
     go_meet
     case rel => exact ⟨gs_, _, _, _, _, rfl, rfl, ⟨Kd.N_mono (Kd.N_far (p := ⟨gs_, 1, none⟩) (Kd.N_far (p := ⟨gs_, 0, none⟩) (Kd.N_mono HS0 (fun _ hk => (⟨hk.1, hk.2⟩ : _ ∧ _))) (fun _ hk => hk.2) _) (fun _ hk => hk.2) _) (fun _ hk => hk.1)⟩, ⟨Kd.N_mono (Kd.N_far (p := ⟨gs_, 1, none⟩) (Kd.N_far (p := ⟨gs_, 0, none⟩) (Kd.N_mono HS1 (fun _ hk => (⟨hk.1, hk.2⟩ : _ ∧ _))) (fun _ hk => hk.2) _) (fun _ hk => hk.2) _) (fun _ hk => hk.1)⟩, ⟨BX2⟩, hge_, ⟨HB2⟩⟩
   ·refine Txt.stepT rfl ?_ zS; intro K hK hS_; refine box_step ?hg (N := 15) ?hd (cs := #[.slice none 0 0, .slice none 0 0]) (t := 31) ?hr ?_; (case hd => rfl); (case hg => rfl); (case hr => first | (go_simp; done) | (go_simp; rfl)); intro gs_ hgs f15_9 BX hb; have BX0_ := aM hgs; replace hb := aM hb; have HA : Below u13.heap.size u13 f15_9 := zB; have HB : Below w.heap.size w f15_9 := zB; have HW_ : Below Wd15.heap.size Wd15 f15_9 := zB
    have hge_ := aM (show Wd15.heap.size ≤ gs_ by rw [hgs]; exact Below.size (zB (w := Wd15) (w' := f15_1))); clear hgs
    refine hK _ _ zS ?_
    simp only [Act.put, List.setIfInBounds_toArray, List.set_cons_zero, List.set_cons_succ]
    refine Txt.callT rfl rfl Try.func19 (by kernel_rfl) rfl (laws_toFact.calls ?_ _ _ _ _ ?_ ?_ _ ?_ ?_ ?h) rfl ?_; (case h => exact zA); (iterate 2 (first | exact zC | exact zA)); rintro e f15_10 ⟨v1, rfl, ho1, hb⟩; obtain ⟨A1, c1, rfl, hc1, hC1⟩ := (show ∃ A_ c_, v1 = .slice A_ _ c_ ∧ _ ≤ c_ ∧ Kd.C _ _ A_ _ _ from (by first | exact Kd.R_reads ho1 | exact Kd.R_reads (Kd.S_R ho1) | exact Kd.N_reads ho1)); replace hb := aM hb; have HA : Below u13.heap.size u13 f15_10 := zB; have HB : Below w.heap.size w f15_10 := zB; have HW_ : Below Wd15.heap.size Wd15 f15_10 := zB; refine ⟨_, rfl, zS, ?_⟩; simp only [Act.put, List.setIfInBounds_toArray, List.set_cons_zero, List.set_cons_succ]
    replace BX := blk_below BX hb.out
    have hglt_ := aM (blk_lt BX)
    refine Txt.callT rfl rfl Try.func20 (by kernel_rfl) rfl (impl_InsertFact.calls ?_ _ _ _ _ _ _ _ _ _ _ ?_ ?_ ?_ _ ?_ ?_ ?_ ?_ ?_ ?_ ?h) rfl ?_; (case h => exact zA); (iterate 6 (first | exact zC | exact zA)); rintro e f15_11 ⟨v0, v1, rfl, ho0, ho1, hb⟩; obtain ⟨A0, c0, rfl, hc0, hC0⟩ := (show ∃ A_ c_, v0 = .slice A_ _ c_ ∧ _ ≤ c_ ∧ Kd.C _ _ A_ _ _ from (by first | exact Kd.R_reads ho0 | exact Kd.R_reads (Kd.S_R ho0) | exact Kd.N_reads ho0)); obtain ⟨A1, c1, rfl, hc1, hC1⟩ := (show ∃ A_ c_, v1 = .slice A_ _ c_ ∧ _ ≤ c_ ∧ Kd.C _ _ A_ _ _ from (by first | exact Kd.R_reads ho1 | exact Kd.R_reads (Kd.S_R ho1) | exact Kd.N_reads ho1)); replace hb := aM hb; have HA : Below u13.heap.size u13 f15_11 := zB; have HB : Below w.heap.size w f15_11 := zB; have HW_ : Below Wd15.heap.size Wd15 f15_11 := zB; refine ⟨_, rfl, zS, ?_⟩; simp only [Act.put, List.setIfInBounds_toArray, List.set_cons_zero, List.set_cons_succ]
    replace BX := blk_below BX hb.out
    have HS0 : Kd.N k74 74 f15_11 Wd15.heap.size (fun k_ => Wd15.heap.size ≤ k_ ∧ f15_10.heap.size ≤ k_) _ _ := Kd.N_lower (by have hs_ := Below.size (zB (w := Wd15) (w' := f15_10)); first | exact Kd.R_N (Kd.R_mono (Kd.R_bound ho0) (fun k hk => ⟨Nat.le_trans hs_ hk.2.1, hk.2.1⟩)) | exact Kd.S_N (Kd.S_mono (Kd.S_bound ho0) (fun k hk => ⟨Nat.le_trans hs_ hk.2.1, hk.2.1⟩)) | exact Kd.N_mono ho0 (fun k hk => ⟨Nat.le_trans hs_ hk.1, hk.1⟩)) (Below.size (zB (w := Wd15) (w' := f15_10)))
    have HS1 : Kd.N k45 45 f15_11 Wd15.heap.size (fun k_ => Wd15.heap.size ≤ k_ ∧ f15_10.heap.size ≤ k_) _ _ := Kd.N_lower (by have hs_ := Below.size (zB (w := Wd15) (w' := f15_10)); first | exact Kd.R_N (Kd.R_mono (Kd.R_bound ho1) (fun k hk => ⟨Nat.le_trans hs_ hk.2.1, hk.2.1⟩)) | exact Kd.S_N (Kd.S_mono (Kd.S_bound ho1) (fun k hk => ⟨Nat.le_trans hs_ hk.2.1, hk.2.1⟩)) | exact Kd.N_mono ho1 (fun k hk => ⟨Nat.le_trans hs_ hk.1, hk.1⟩)) (Below.size (zB (w := Wd15) (w' := f15_10)))
    replace HS0 := Kd.N_mono HS0 (ok' := fun k_ => Wd15.heap.size ≤ k_ ∧ k_ ≠ gs_) (fun k hk => ⟨hk.1, fun e_ => by have := hglt_.out; have := hk.2; omega⟩)
    replace HS1 := Kd.N_mono HS1 (ok' := fun k_ => Wd15.heap.size ≤ k_ ∧ k_ ≠ gs_) (fun k hk => ⟨hk.1, fun e_ => by have := hglt_.out; have := hk.2; omega⟩)
    refine Txt.takeT rfl rfl ?_; intro K hK; go_big_quiet_op; go_big_quiet_on
    refine Txt.takeT rfl rfl ?_; intro K hK; go_big_quiet_op; go_big_quiet_on
    refine Txt.takeT rfl rfl ?_; intro K hK; go_big_quiet_op; go_big_quiet_on
    have hcz0 : f15_11.cell? ⟨gs_, 0, none⟩ = some (.slice none 0 0) := (blk_cell BX 0).trans rfl
    have hfz0 := blk_frozen BX 0
    have hcz1 : f15_11.cell? ⟨gs_, 1, none⟩ = some (.slice none 0 0) := (blk_cell BX 1).trans rfl
    have hfz1 := blk_frozen BX 1
    have BX2 := blk_put (cs := #[.slice A0 g1.length c0, .slice none 0 0]) (blk_put (cs := #[.slice none 0 0, .slice none 0 0]) BX 0 (.slice A0 g1.length c0) rfl) 1 (.slice A1 g2.length c1) rfl
    have HB2 : Below Wd15.heap.size Wd15 ((f15_11.setCell ⟨gs_, 0, none⟩ (.slice A0 g1.length c0)).setCell ⟨gs_, 1, none⟩ (.slice A1 g2.length c1)) := below_set (below_set (zB (w := Wd15) (w' := f15_11)) hge_.out) hge_.out
    refine Txt.stepT rfl ?_ zS; intro K hK hS_; refine skip_ (w1 := ?_) (by rfl) rfl ?_ ?_
    rotate_left
    ·(go_simp; rfl)
    refine hK _ _ (regrown_of_below HB2) ?_
    refine Txt.takeT rfl rfl ?_; intro K hK; go_big_quiet_op; go_big_quiet_on
    refine Txt.nilT ?_
    (try go_wp2)
    go_meet
    case rel => exact ⟨gs_, _, _, _, _, rfl, rfl, ⟨Kd.N_mono (Kd.N_far (p := ⟨gs_, 1, none⟩) (Kd.N_far (p := ⟨gs_, 0, none⟩) (Kd.N_mono HS0 (fun _ hk => (⟨hk.1, hk.2⟩ : _ ∧ _))) (fun _ hk => hk.2) _) (fun _ hk => hk.2) _) (fun _ hk => hk.1)⟩, ⟨Kd.N_mono (Kd.N_far (p := ⟨gs_, 1, none⟩) (Kd.N_far (p := ⟨gs_, 0, none⟩) (Kd.N_mono HS1 (fun _ hk => (⟨hk.1, hk.2⟩ : _ ∧ _))) (fun _ hk => hk.2) _) (fun _ hk => hk.2) _) (fun _ hk => hk.1)⟩, ⟨BX2⟩, hge_, ⟨HB2⟩⟩
  ·refine Txt.stepT rfl ?_ zS; intro K hK hS_; refine box_step ?hg (N := 15) ?hd (cs := #[.slice none 0 0, .slice none 0 0]) (t := 31) ?hr ?_; (case hd => rfl); (case hg => rfl); (case hr => first | (go_simp; done) | (go_simp; rfl)); intro gs_ hgs f15_13 BX hb; have BX0_ := aM hgs; replace hb := aM hb; have HA : Below u13.heap.size u13 f15_13 := zB; have HB : Below w.heap.size w f15_13 := zB; have HW_ : Below Wd15.heap.size Wd15 f15_13 := zB
   have hge_ := aM (show Wd15.heap.size ≤ gs_ by rw [hgs]; exact Below.size (zB (w := Wd15) (w' := Wd15.drew))); clear hgs
   refine hK _ _ zS ?_
   simp only [Act.put, List.setIfInBounds_toArray, List.set_cons_zero, List.set_cons_succ]
   refine Txt.callT rfl rfl Try.func9 (by kernel_rfl) rfl (laws_toDatabase.calls ?_ _ _ _ _ _ _ ?_ ?_ _ ?_ ?_ ?_ ?_ ?h) rfl ?_; (case h => exact zA); (iterate 4 (first | exact zC | exact zA)); rintro e f15_14 ⟨v0, v1, rfl, ho0, ho1, hb⟩; obtain ⟨A0, c0, rfl, hc0, hC0⟩ := (show ∃ A_ c_, v0 = .slice A_ _ c_ ∧ _ ≤ c_ ∧ Kd.C _ _ A_ _ _ from (by first | exact Kd.R_reads ho0 | exact Kd.R_reads (Kd.S_R ho0) | exact Kd.N_reads ho0)); obtain ⟨A1, c1, rfl, hc1, hC1⟩ := (show ∃ A_ c_, v1 = .slice A_ _ c_ ∧ _ ≤ c_ ∧ Kd.C _ _ A_ _ _ from (by first | exact Kd.R_reads ho1 | exact Kd.R_reads (Kd.S_R ho1) | exact Kd.N_reads ho1)); replace hb := aM hb; have HA : Below u13.heap.size u13 f15_14 := zB; have HB : Below w.heap.size w f15_14 := zB; have HW_ : Below Wd15.heap.size Wd15 f15_14 := zB; refine ⟨_, rfl, zS, ?_⟩; simp only [Act.put, List.setIfInBounds_toArray, List.set_cons_zero, List.set_cons_succ]
   replace BX := blk_below BX hb.out
   refine Txt.callT rfl rfl Try.func19 (by kernel_rfl) rfl (laws_toFact.calls ?_ _ _ _ _ ?_ ?_ _ ?_ ?_ ?h) rfl ?_; (case h => exact zA); (iterate 2 (first | exact zC | exact zA)); rintro e f15_15 ⟨v1, rfl, ho1, hb⟩; obtain ⟨A1, c1, rfl, hc1, hC1⟩ := (show ∃ A_ c_, v1 = .slice A_ _ c_ ∧ _ ≤ c_ ∧ Kd.C _ _ A_ _ _ from (by first | exact Kd.R_reads ho1 | exact Kd.R_reads (Kd.S_R ho1) | exact Kd.N_reads ho1)); replace hb := aM hb; have HA : Below u13.heap.size u13 f15_15 := zB; have HB : Below w.heap.size w f15_15 := zB; have HW_ : Below Wd15.heap.size Wd15 f15_15 := zB; refine ⟨_, rfl, zS, ?_⟩; simp only [Act.put, List.setIfInBounds_toArray, List.set_cons_zero, List.set_cons_succ]
   replace BX := blk_below BX hb.out
   have hglt_ := aM (blk_lt BX)
   refine Txt.callT rfl rfl Try.func20 (by kernel_rfl) rfl (impl_InsertFact.calls ?_ _ _ _ _ _ _ _ _ _ _ ?_ ?_ ?_ _ ?_ ?_ ?_ ?_ ?_ ?_ ?h) rfl ?_; (case h => exact zA); (iterate 6 (first | exact zC | exact zA)); rintro e f15_16 ⟨v0, v1, rfl, ho0, ho1, hb⟩; obtain ⟨A0, c0, rfl, hc0, hC0⟩ := (show ∃ A_ c_, v0 = .slice A_ _ c_ ∧ _ ≤ c_ ∧ Kd.C _ _ A_ _ _ from (by first | exact Kd.R_reads ho0 | exact Kd.R_reads (Kd.S_R ho0) | exact Kd.N_reads ho0)); obtain ⟨A1, c1, rfl, hc1, hC1⟩ := (show ∃ A_ c_, v1 = .slice A_ _ c_ ∧ _ ≤ c_ ∧ Kd.C _ _ A_ _ _ from (by first | exact Kd.R_reads ho1 | exact Kd.R_reads (Kd.S_R ho1) | exact Kd.N_reads ho1)); replace hb := aM hb; have HA : Below u13.heap.size u13 f15_16 := zB; have HB : Below w.heap.size w f15_16 := zB; have HW_ : Below Wd15.heap.size Wd15 f15_16 := zB; refine ⟨_, rfl, zS, ?_⟩; simp only [Act.put, List.setIfInBounds_toArray, List.set_cons_zero, List.set_cons_succ]
   replace BX := blk_below BX hb.out
   have HS0 : Kd.N k74 74 f15_16 Wd15.heap.size (fun k_ => Wd15.heap.size ≤ k_ ∧ f15_15.heap.size ≤ k_) _ _ := Kd.N_lower (by have hs_ := Below.size (zB (w := Wd15) (w' := f15_15)); first | exact Kd.R_N (Kd.R_mono (Kd.R_bound ho0) (fun k hk => ⟨Nat.le_trans hs_ hk.2.1, hk.2.1⟩)) | exact Kd.S_N (Kd.S_mono (Kd.S_bound ho0) (fun k hk => ⟨Nat.le_trans hs_ hk.2.1, hk.2.1⟩)) | exact Kd.N_mono ho0 (fun k hk => ⟨Nat.le_trans hs_ hk.1, hk.1⟩)) (Below.size (zB (w := Wd15) (w' := f15_15)))
   have HS1 : Kd.N k45 45 f15_16 Wd15.heap.size (fun k_ => Wd15.heap.size ≤ k_ ∧ f15_15.heap.size ≤ k_) _ _ := Kd.N_lower (by have hs_ := Below.size (zB (w := Wd15) (w' := f15_15)); first | exact Kd.R_N (Kd.R_mono (Kd.R_bound ho1) (fun k hk => ⟨Nat.le_trans hs_ hk.2.1, hk.2.1⟩)) | exact Kd.S_N (Kd.S_mono (Kd.S_bound ho1) (fun k hk => ⟨Nat.le_trans hs_ hk.2.1, hk.2.1⟩)) | exact Kd.N_mono ho1 (fun k hk => ⟨Nat.le_trans hs_ hk.1, hk.1⟩)) (Below.size (zB (w := Wd15) (w' := f15_15)))
   replace HS0 := Kd.N_mono HS0 (ok' := fun k_ => Wd15.heap.size ≤ k_ ∧ k_ ≠ gs_) (fun k hk => ⟨hk.1, fun e_ => by have := hglt_.out; have := hk.2; omega⟩)
   replace HS1 := Kd.N_mono HS1 (ok' := fun k_ => Wd15.heap.size ≤ k_ ∧ k_ ≠ gs_) (fun k hk => ⟨hk.1, fun e_ => by have := hglt_.out; have := hk.2; omega⟩)
   refine Txt.takeT rfl rfl ?_; intro K hK; go_big_quiet_op; go_big_quiet_on
   refine Txt.takeT rfl rfl ?_; intro K hK; go_big_quiet_op; go_big_quiet_on
   refine Txt.takeT rfl rfl ?_; intro K hK; go_big_quiet_op; go_big_quiet_on
   have hcz0 : f15_16.cell? ⟨gs_, 0, none⟩ = some (.slice none 0 0) := (blk_cell BX 0).trans rfl
   have hfz0 := blk_frozen BX 0
   have hcz1 : f15_16.cell? ⟨gs_, 1, none⟩ = some (.slice none 0 0) := (blk_cell BX 1).trans rfl
   have hfz1 := blk_frozen BX 1
   have BX2 := blk_put (cs := #[.slice A0 g1.length c0, .slice none 0 0]) (blk_put (cs := #[.slice none 0 0, .slice none 0 0]) BX 0 (.slice A0 g1.length c0) rfl) 1 (.slice A1 g2.length c1) rfl
   have HB2 : Below Wd15.heap.size Wd15 ((f15_16.setCell ⟨gs_, 0, none⟩ (.slice A0 g1.length c0)).setCell ⟨gs_, 1, none⟩ (.slice A1 g2.length c1)) := below_set (below_set (zB (w := Wd15) (w' := f15_16)) hge_.out) hge_.out
   refine Txt.stepT rfl ?_ zS; intro K hK hS_; refine skip_ (w1 := ?_) (by rfl) rfl ?_ ?_
   rotate_left
   ·(go_simp; rfl)
   refine hK _ _ (regrown_of_below HB2) ?_
   refine Txt.takeT rfl rfl ?_; intro K hK; go_big_quiet_op; go_big_quiet_on
   refine Txt.nilT ?_
   (try go_wp2)
   go_meet
   case rel => exact ⟨gs_, _, _, _, _, rfl, rfl, ⟨Kd.N_mono (Kd.N_far (p := ⟨gs_, 1, none⟩) (Kd.N_far (p := ⟨gs_, 0, none⟩) (Kd.N_mono HS0 (fun _ hk => (⟨hk.1, hk.2⟩ : _ ∧ _))) (fun _ hk => hk.2) _) (fun _ hk => hk.2) _) (fun _ hk => hk.1)⟩, ⟨Kd.N_mono (Kd.N_far (p := ⟨gs_, 1, none⟩) (Kd.N_far (p := ⟨gs_, 0, none⟩) (Kd.N_mono HS1 (fun _ hk => (⟨hk.1, hk.2⟩ : _ ∧ _))) (fun _ hk => hk.2) _) (fun _ hk => hk.2) _) (fun _ hk => hk.1)⟩, ⟨BX2⟩, hge_, ⟨HB2⟩⟩
 obtain ⟨ig, iA0, ic0, iA1, ic1, rfl, rfl, iN0, iN1, bxi_, ige, hb⟩ := hcut
 obtain ⟨u15, rfl⟩ : ∃ U_, U_ = wc := ⟨_, rfl⟩
 have io0 := iN0.out
 have il0 := (Kd.N_reads' io0).2.1
 have iC0 := (Kd.N_reads' io0).2.2
 have io1 := iN1.out
 have il1 := (Kd.N_reads' io1).2.1
 have iC1 := (Kd.N_reads' io1).2.2
 have bxi := bxi_.out
 have z15 := aM hb.out.size
 have zg15 := aM ige.out
 have zh15 := aM (blk_lt bxi)
 have bx0 := blk_below bx0 (zB (w := u13) (w' := u15))
 clear qbx0_0 qbx0_1
 have bx1 := blk_below bx1 (zB (w := u13) (w' := u15))
 clear qbx1_0 qbx1_1
 have bxs := blk_below bxs (zB (w := u13) (w' := u15))
 clear qbxs_0 qbxs_1
 have bxx := blk_below bxx (zB (w := u13) (w' := u15))
 clear qbxx_0 qbxx_1
 have bxy := blk_below bxy (zB (w := u13) (w' := u15))
 clear qbxy_0 qbxy_1
 have bxg := blk_below bxg (zB (w := u13) (w' := u15))
 clear qbxg_0 qbxg_1
 clear HA
 have qbx0_0 := qa (w := u15) ((blk_cell bx0 0).trans rfl)
 have qbx0_1 := qa (w := u15) ((blk_cell bx0 1).trans rfl)
 have qbx1_0 := qa (w := u15) ((blk_cell bx1 0).trans rfl)
 have qbx1_1 := qa (w := u15) ((blk_cell bx1 1).trans rfl)
 have qbxs_0 := qa (w := u15) ((blk_cell bxs 0).trans rfl)
 have qbxs_1 := qa (w := u15) ((blk_cell bxs 1).trans rfl)
 have qbxx_0 := qa (w := u15) ((blk_cell bxx 0).trans rfl)
 have qbxx_1 := qa (w := u15) ((blk_cell bxx 1).trans rfl)
 have qbxy_0 := qa (w := u15) ((blk_cell bxy 0).trans rfl)
 have qbxy_1 := qa (w := u15) ((blk_cell bxy 1).trans rfl)
 have qbxg_0 := qa (w := u15) ((blk_cell bxg 0).trans rfl)
 have qbxg_1 := qa (w := u15) ((blk_cell bxg 1).trans rfl)
 have qbxi_0 := qa (w := u15) ((blk_cell bxi 0).trans rfl)
 have qbxi_1 := qa (w := u15) ((blk_cell bxi 1).trans rfl)
 have HA := Below.refl u15.heap.size u15
 have HB : Below w.heap.size w u15 := zB
 go_wp2_with fail
 refine (laws_eqDatabase.calls ?_ _ _ _ _ _ _ _ _ _ _ _ _ ?_ _ ?_ ?_ ?_ ?_ ?_ ?_ ?_ ?_ ?h).mono ?_; (case h => exact zA)
 (iterate 8 (first | exact zC | exact zA))
 rintro e u16 ⟨rfl, hb⟩
 replace hb := aM hb
 have z16 := aM hb.out.size
 have HA : Below u15.heap.size u15 u16 := zB
 have HB : Below w.heap.size w u16 := zB
 go_wp2_with fail
 have hc := laws_heldDatabase.calls k gA0 gc0 n2 gA1 gc1 n3 1 q u16 zC nL0 zC nL1 Bq
 rw [← nX0.out] at hc
 rw [← nX1.out] at hc
 refine hc.mono ?_
 clear hc
 rintro e u17 ⟨rfl, hb⟩
 replace hb := aM hb
 have z17 := aM hb.out.size
 have HA : Below u15.heap.size u15 u17 := zB
 have HB : Below w.heap.size w u17 := zB
 go_wp2
 go_ret
 exact zE zB

end Go.Proofs.Yteddnlklfjpgoaa.PFnExactInsertFact
