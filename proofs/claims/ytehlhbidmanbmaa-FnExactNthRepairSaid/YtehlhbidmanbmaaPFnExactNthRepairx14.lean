-- Laid by a program of this claim: what the functions come to, some of them proved by hand.
import Derived.Test.YtehlhbidmanbmaaPFnExactNthRepairx0
import Derived.Test.YtehlhbidmanbmaaPFnExactNthRepairx1
import Derived.Test.YtehlhbidmanbmaaPFnExactNthRepairx2
import Derived.Test.YtehlhbidmanbmaaPFnExactNthRepairx3
import Derived.Test.YtehlhbidmanbmaaPFnExactNthRepairx9
import Derived.Test.YtehlhbidmanbmaaPFnExactNthRepairx13
namespace Go.Proofs.Ytehlhbidmanbmaa.PFnExactNthRepair
open Go.RowKit Go.Proofs.YtehlhbidmanbmaaW.PrintWords Go.Proofs.YtehlhbidmanbmaaW.PrintLast Go.Proofs.YtehlhbidmanbmaaW.PrintMore
attribute [local go_sem] max2_int min2_int max_two min_two max_three min_three max_four min_four   -- for this text's walks alone
set_option linter.unusedVariables false
set_option linter.unusedSimpArgs false

/-! ### laws_FnExactNthRepair: function 11 -/
def laws_FnExactNthRepair.f (k : Nat) (l0_0 : List S85) (l0_1 : List S47) (a1 : Int) : Option Bool := (laws_szDatabase.f k l0_0 l0_1 1048576).bind fun t0 => if t0 < 0 then some true else (laws_toDatabase.f k l0_0 l0_1).bind fun d => (spec_NthRepair.f k d.1 d.2 a1).bind fun s => (impl_NthRepair.f k d.1 d.2 a1).bind fun g => (laws_eqIntS.f k g.1 s.1).bind fun b1 => if b1 = true then (if (g.2 == s.2) = true then ((laws_eqDatabase.f k d.1 d.2 d.1 d.2).bind fun b2 => if b2 = true then ((laws_markDatabase.f k d.1 d.2 1).bind fun m => if m.1 < 0 then some false else ((laws_markIntS.f k g.1 1).bind fun mg => (laws_heldIntS.f k mg.2 1).bind fun q => if q < 0 then some false else if q = mg.1 then some true else some false)) else some false) else some false) else some false
set_option maxHeartbeats 8000000 in
set_option maxRecDepth 100000 in
theorem laws_FnExactNthRepair.calls (k : Nat) (A0_0 : Option Addr) (c0_0 : Nat) (l0_0 : List S85) (A0_1 : Option Addr) (c0_1 : Nat) (l0_1 : List S47) (a1 : Int) (r : Bool) (w : World) (hr0_0 : Kd.C k85 w A0_0 l0_0.length l0_0) (hc0_0 : l0_0.length ≤ c0_0) (hr0_1 : Kd.C k47 w A0_1 l0_1.length l0_1) (hc0_1 : l0_1.length ≤ c0_1) (h : laws_FnExactNthRepair.f k l0_0 l0_1 a1 = some r) (hr_ : r = true) :
  Calls Try.prog 11 #[.agg #[.slice A0_0 l0_0.length c0_0, .slice A0_1 l0_1.length c0_1], .int .i64 a1] w fun e w' => e = .returned (.bool r) ∧ Below w.heap.size w w' := by
 subst hr_
 have hu25 := Try.underlying25
 have hu32 := Try.underlying32
 obtain ⟨W, hW⟩ : ∃ W, w.alloc (.cells #[.slice A0_0 l0_0.length c0_0, .slice A0_1 l0_1.length c0_1] 25) = W := ⟨_, rfl⟩
 have bx0 : W.heap[w.heap.size]? = some (.cells #[.slice A0_0 l0_0.length c0_0, .slice A0_1 l0_1.length c0_1] 25 (0, 0)) := by subst hW; first | exact heap_alloc_new _ _ | exact blk_alloc (heap_alloc_new _ _) _ | (have := heap_alloc_new (w.alloc (.cells #[.slice A0_0 l0_0.length c0_0, .slice A0_1 l0_1.length c0_1] 25)) (.cells #[.slice A0_0 l0_0.length c0_0, .slice A0_1 l0_1.length c0_1] 25); simpa using this)
 have HB : Below w.heap.size w W := by subst hW; exact zB
 have hb := aM HB
 have HA := Below.refl W.heap.size W
 have z0 := aM HB.size
 have zl := aM (show w.heap.size < W.heap.size by subst hW; simp)
 have qbx0_0 := qa (w := W) ((blk_cell bx0 0).trans rfl)
 have qbx0_1 := qa (w := W) ((blk_cell bx0 1).trans rfl)
 have rg_ := @bcl w
 have rd_ := @bdr w
 unfold laws_FnExactNthRepair.f at h
 replace h := bs h; obtain ⟨t0, B0, h⟩ := h
 replace h := il h; rcases h with ⟨c0, c0a, h⟩ | ⟨c0, c0a, h⟩
 go_enter Try.func11, Try.ntmps11
 go_wp2_with (first | (go_at_call 15; refine (laws_szDatabase.calls ?_ _ _ _ _ _ _ _ ?_ _ ?_ ?_ ?_ ?_ ?h).mono ?_; (case h => exact zA); (iterate 4 (first | exact zC | exact zA)); rintro e w1 ⟨rfl, hb⟩; replace hb := aM hb; have HB : Below w.heap.size w w1 := zB))
 go_ret
 exact zE zB
 replace h := bs h; obtain ⟨⟨d1, d2⟩, Bd, h⟩ := h
 replace h := bs h; obtain ⟨⟨s1, sb⟩, Bs, h⟩ := h
 replace h := bs h; obtain ⟨⟨g1, gb⟩, Bg, h⟩ := h
 dsimp only at h Bs Bg
 replace h := bs h; obtain ⟨b1, Be, h⟩ := h
 replace h := ib h; rcases h with ⟨rfl, h⟩ | ⟨rfl, h⟩
 rotate_left
 exact absurd (si h) (by decide)
 replace h := ib h; rcases h with ⟨eb, h⟩ | ⟨eb, h⟩
 rotate_left
 exact absurd (si h) (by decide)
 obtain rfl : gb = sb := by simpa using eb
 clear eb
 replace h := bs h; obtain ⟨b2, Be2, h⟩ := h
 replace h := ib h; rcases h with ⟨rfl, h⟩ | ⟨rfl, h⟩
 rotate_left
 exact absurd (si h) (by decide)
 replace h := bs h; obtain ⟨⟨m1, m2, m3⟩, Bm, h⟩ := h
 dsimp only at h
 replace h := il h; rcases h with ⟨cm, cma, h⟩ | ⟨cm, cma, h⟩
 exact absurd (si h) (by decide)
 replace h := bs h; obtain ⟨⟨n1, n2⟩, Bn, h⟩ := h
 replace h := bs h; obtain ⟨q, Bq, h⟩ := h
 dsimp only at h Bq
 replace h := il h; rcases h with ⟨cq, cqa, h⟩ | ⟨cq, cqa, h⟩
 exact absurd (si h) (by decide)
 replace h := iq h; rcases h with ⟨ce, ⟨cea, ceb⟩, h⟩ | ⟨ce, ⟨cea, ceb⟩, h⟩
 rotate_left
 exact absurd (si h) (by decide)
 obtain rfl := ce.out
 clear h ce cea ceb
 go_enter Try.func11, Try.ntmps11
 go_wp2_with fail
 refine (laws_szDatabase.calls ?_ _ _ _ _ _ _ _ ?_ _ ?_ ?_ ?_ ?_ ?h).mono ?_
 (case h => exact zA)
 (iterate 4 (first | exact zC | exact zA))
 rintro e u1 ⟨rfl, hb⟩
 replace hb := aM hb
 have z1 := aM hb.out.size
 have HA : Below W.heap.size W u1 := zB
 have HB : Below w.heap.size w u1 := zB
 go_wp2_with fail
 refine (laws_toDatabase.calls ?_ _ _ _ _ _ _ ?_ ?_ _ ?_ ?_ ?_ ?_ ?h).mono ?_
 (case h => exact zA)
 (iterate 4 (first | exact zC | exact zA))
 rintro e u2 ⟨t2v0, t2v1, rfl, t2o0, t2o1, hb⟩
 obtain ⟨t2A0, t2c0, rfl, t2l0, t2C0⟩ := Kd.R_reads t2o0
 obtain ⟨t2A1, t2c1, rfl, t2l1, t2C1⟩ := Kd.S_reads t2o1
 replace hb := aM hb
 have z2 := aM hb.out.size
 have HA : Below W.heap.size W u2 := zB
 have HB : Below w.heap.size w u2 := zB
 go_wp2_with fail
 refine (spec_NthRepair.calls ?_ _ _ _ _ _ _ _ ?_ ?_ _ ?_ ?_ ?_ ?_ ?h).mono ?_
 (case h => exact zA)
 (iterate 4 (first | exact zC | exact zA))
 rintro e u3 ⟨sv0, rfl, so0, hb⟩
 obtain ⟨sA0, sc0, rfl, sl0, sC0⟩ := Kd.R_reads so0
 replace hb := aM hb
 have z3 := aM hb.out.size
 have HA : Below W.heap.size W u3 := zB
 have HB : Below w.heap.size w u3 := zB
 go_wp2_with fail
 refine (laws_toDatabase.calls ?_ _ _ _ _ _ _ ?_ ?_ _ ?_ ?_ ?_ ?_ ?h).mono ?_
 (case h => exact zA)
 (iterate 4 (first | exact zC | exact zA))
 rintro e u4 ⟨xv0, xv1, rfl, xo0, xo1, hb⟩
 obtain ⟨xA0, xc0, rfl, xl0, xC0⟩ := Kd.R_reads xo0
 obtain ⟨xA1, xc1, rfl, xl1, xC1⟩ := Kd.S_reads xo1
 replace hb := aM hb
 have z4 := aM hb.out.size
 have HA : Below W.heap.size W u4 := zB
 have HB : Below w.heap.size w u4 := zB
 obtain ⟨W4, hW4⟩ : ∃ W_, u4.alloc (.cells #[.slice xA0 d1.length xc0, .slice xA1 d2.length xc1] 32) = W_ := ⟨_, rfl⟩
 have bxx : W4.heap[u4.heap.size]? = some (.cells #[.slice xA0 d1.length xc0, .slice xA1 d2.length xc1] 32 (0, 0)) := by subst hW4; exact heap_alloc_new _ _
 have hb : Aside0 (Below u4.heap.size u4 W4) := ⟨by subst hW4; exact below_alloc (Below.refl _ _) _⟩
 have bx0 := blk_below bx0 (zB (w := W) (w' := W4))
 clear qbx0_0 qbx0_1
 clear HA
 have z4b := aM (show u4.heap.size < W4.heap.size by subst hW4; simp)
 have qbx0_0 := qa (w := W4) ((blk_cell bx0 0).trans rfl)
 have qbx0_1 := qa (w := W4) ((blk_cell bx0 1).trans rfl)
 have qbxx_0 := qa (w := W4) ((blk_cell bxx 0).trans rfl)
 have qbxx_1 := qa (w := W4) ((blk_cell bxx 1).trans rfl)
 have HA := Below.refl W4.heap.size W4
 have HB : Below w.heap.size w W4 := zB
 go_wp2_with fail
 refine (impl_NthRepair.calls ?_ _ _ _ _ _ _ _ ?_ ?_ _ ?_ ?_ ?_ ?_ ?h).mono ?_
 (case h => exact zA)
 (iterate 4 (first | exact zC | exact zA))
 rintro e u5 ⟨gv0, rfl, go0, hb⟩
 obtain ⟨gA0, gc0, rfl, gl0, gC0⟩ := Kd.R_reads go0
 replace hb := aM hb
 have z5 := aM hb.out.size
 have HA : Below W4.heap.size W4 u5 := zB
 have HB : Below w.heap.size w u5 := zB
 go_wp2_with fail
 refine (laws_eqIntS.calls ?_ _ _ _ _ _ _ ?_ _ ?_ ?_ ?_ ?_ ?h).mono ?_
 (case h => exact zA)
 (iterate 4 (first | exact zC | exact zA))
 rintro e u6 ⟨rfl, hb⟩
 replace hb := aM hb.below
 have z6 := aM hb.out.size
 have HA : Below W4.heap.size W4 u6 := zB
 have HB : Below w.heap.size w u6 := zB
 go_wp2_with fail
 refine nw (w0 := w) zB ?_
 intro Wd7 HB hb hd
 have HA : Below W4.heap.size W4 Wd7 := zB
 have rG_ := @bcl W4
 have rD_ := @bdr W4
 refine Txt.rg (id := 10) [0, 1, 2, 3, 4] (by kernel_rfl) (by kernel_rfl) ?_
 simp only [List.map_cons, List.map_nil, List.getD_cons_zero, List.getD_cons_succ]
 (repeat (first | (refine Txt.off rfl ?_; simp only [Act.put, List.setIfInBounds_toArray, List.set_cons_zero, List.set_cons_succ]) | (refine Txt.take rfl rfl ?_; intro K hK; go_big_quiet_op; go_big_quiet_on) | (refine Txt.call rfl rfl Try.func17 (by kernel_rfl) rfl (laws_toDatabase.calls ?_ _ _ _ _ _ _ ?_ ?_ _ ?_ ?_ ?_ ?_ ?h) rfl ?_; (case h => exact zA); (iterate 4 (first | exact zC | exact zA)); rintro e w1 ⟨v0, v1, rfl, ho0, ho1, hb⟩; obtain ⟨A0, c0, rfl, hc0, hC0⟩ := Kd.R_reads ho0; obtain ⟨A1, c1, rfl, hc1, hC1⟩ := Kd.R_reads (Kd.S_R ho1); replace hb := aM hb; have HA : Below W4.heap.size W4 w1 := zB; have HB : Below w.heap.size w w1 := zB; refine ⟨_, rfl, zS, ?_⟩; simp only [Act.put, List.setIfInBounds_toArray, List.set_cons_zero, List.set_cons_succ]) | (refine Txt.call rfl rfl Try.func20 (by kernel_rfl) rfl (laws_eqDatabase.calls ?_ _ _ _ _ _ _ _ _ _ _ _ _ ?_ _ ?_ ?_ ?_ ?_ ?_ ?_ ?_ ?_ ?h) rfl ?_; (case h => exact zA); (iterate 8 (first | exact zC | exact zA)); rintro e u7 ⟨rfl, hb⟩; replace hb := aM hb; have HA : Below W4.heap.size W4 u7 := zB; have HB : Below w.heap.size w u7 := zB; refine ⟨_, rfl, zS, ?_⟩; simp only [Act.put, List.setIfInBounds_toArray, List.set_cons_zero, List.set_cons_succ])))
 refine Txt.nil ?_
 have z7 := aM (zB (w := u6) (w' := u7)).size
 clear rG_ rD_
 have xH7_0 := Kd.R_lower (R_iv xo0 (zB (w := u4) (w' := u7))) (show w.heap.size ≤ _ by have := z0.out; have := zl.out; have := z1.out; have := z2.out; have := z3.out; have := z4.out; have := z4b.out; have := z5.out; have := z6.out; have := z7.out; omega)
 have xH7_1 := Kd.S_lower (S_iv xo1 (zB (w := u4) (w' := u7))) (show w.heap.size ≤ _ by have := z0.out; have := zl.out; have := z1.out; have := z2.out; have := z3.out; have := z4.out; have := z4b.out; have := z5.out; have := z6.out; have := z7.out; omega)
 go_wp2_with fail
 refine (laws_markDatabase.calls k _ _ _ _ _ _ 1 _ _ _ w _ HB xH7_0 xH7_1 (fun k_ a_ b_ => Ty.ne a_.2 b_.2 (by decide)) Bm).mono ?_
 rintro e u8 ⟨rfl, -, -, hB, hK⟩
 replace hK : Kept u7 u8 (Iv u3.heap.size u4.heap.size) := kept_iv hK (fun k_ h_ => h_.elim (fun h_ => h_.1) (fun h_ => h_.1))
 have bx0 := blk_past (blk_below bx0 (zB (w := W4) (w' := u7))) hK (by have := z0.out; have := zl.out; have := z1.out; have := z2.out; have := z3.out; have := z4.out; have := z4b.out; have := z5.out; have := z6.out; have := z7.out; omega)
 have bxx := blk_past (blk_below bxx (zB (w := W4) (w' := u7))) hK (by have := z0.out; have := zl.out; have := z1.out; have := z2.out; have := z3.out; have := z4.out; have := z4b.out; have := z5.out; have := z6.out; have := z7.out; omega)
 have sH8_0 := Kd.R_lower (R_iv so0 (zB (w := u3) (w' := u7))) (show w.heap.size ≤ _ by have := z0.out; have := zl.out; have := z1.out; have := z2.out; have := z3.out; have := z4.out; have := z4b.out; have := z5.out; have := z6.out; have := z7.out; omega)
 have sH8_0_8 := R_past sH8_0 hK (by have := z0.out; have := zl.out; have := z1.out; have := z2.out; have := z3.out; have := z4.out; have := z4b.out; have := z5.out; have := z6.out; have := z7.out; omega)
 have sC0 := (Kd.R_reads' sH8_0_8).2.2
 have gH8_0 := Kd.R_lower (R_iv go0 (zB (w := u5) (w' := u7))) (show w.heap.size ≤ _ by have := z0.out; have := zl.out; have := z1.out; have := z2.out; have := z3.out; have := z4.out; have := z4b.out; have := z5.out; have := z6.out; have := z7.out; omega)
 have gH8_0_8 := R_past gH8_0 hK (by have := z0.out; have := zl.out; have := z1.out; have := z2.out; have := z3.out; have := z4.out; have := z4b.out; have := z5.out; have := z6.out; have := z7.out; omega)
 have gC0 := (Kd.R_reads' gH8_0_8).2.2
 have HB := hB
 have z8 := aM hK.1
 clear HA
 clear qbx0_0 qbx0_1
 clear qbxx_0 qbxx_1
 have qbx0_0 := qa (w := u8) ((blk_cell bx0 0).trans rfl)
 have qbx0_1 := qa (w := u8) ((blk_cell bx0 1).trans rfl)
 have qbxx_0 := qa (w := u8) ((blk_cell bxx 0).trans rfl)
 have qbxx_1 := qa (w := u8) ((blk_cell bxx 1).trans rfl)
 have HA := Below.refl u8.heap.size u8
 go_wp2_with fail
 refine (laws_eqIntS.calls ?_ _ _ _ _ _ _ ?_ _ ?_ ?_ ?_ ?_ ?h).mono ?_
 (case h => exact zA)
 (iterate 4 (first | exact zC | exact zA))
 rintro e u9 ⟨rfl, hb⟩
 replace hb := aM hb.below
 have z9 := aM hb.out.size
 have HA : Below u8.heap.size u8 u9 := zB
 have HB : Below w.heap.size w u9 := zB
 have gH9_0 := R_at gH8_0_8 (zB (w := u8) (w' := u9))
 go_wp2_with fail
 refine (laws_markIntS.calls k _ _ _ 1 _ _ w _ HB gH9_0 Bn).mono ?_
 rintro e u10 ⟨rfl, mR0, hB, hK⟩
 replace hK : Kept u9 u10 (Iv W4.heap.size u5.heap.size) := kept_iv hK (fun k_ h_ => h_.1)
 have bx0 := blk_past (blk_below bx0 (zB (w := u8) (w' := u9))) hK (by have := z0.out; have := zl.out; have := z1.out; have := z2.out; have := z3.out; have := z4.out; have := z4b.out; have := z5.out; have := z6.out; have := z7.out; have := z8.out; have := z9.out; omega)
 have bxx := blk_past (blk_below bxx (zB (w := u8) (w' := u9))) hK (by have := z0.out; have := zl.out; have := z1.out; have := z2.out; have := z3.out; have := z4.out; have := z4b.out; have := z5.out; have := z6.out; have := z7.out; have := z8.out; have := z9.out; omega)
 have sH10_0 := R_at sH8_0_8 (zB (w := u8) (w' := u9))
 have sH10_0_10 := R_past sH10_0 hK (by have := z0.out; have := zl.out; have := z1.out; have := z2.out; have := z3.out; have := z4.out; have := z4b.out; have := z5.out; have := z6.out; have := z7.out; have := z8.out; have := z9.out; omega)
 have sC0 := (Kd.R_reads' sH10_0_10).2.2
 have HB := hB
 have z10 := aM hK.1
 clear HA
 clear qbx0_0 qbx0_1
 clear qbxx_0 qbxx_1
 have qbx0_0 := qa (w := u10) ((blk_cell bx0 0).trans rfl)
 have qbx0_1 := qa (w := u10) ((blk_cell bx0 1).trans rfl)
 have qbxx_0 := qa (w := u10) ((blk_cell bxx 0).trans rfl)
 have qbxx_1 := qa (w := u10) ((blk_cell bxx 1).trans rfl)
 have HA := Below.refl u10.heap.size u10
 have nE0 := (Kd.R_reads' mR0).1
 have nC0 := (Kd.R_reads' mR0).2.2
 have nL0 : n2.length ≤ gc0 := nE0 ▸ gl0
 have nX0 := aM nE0
 clear nE0 mR0
 go_wp2_with fail
 have hc := laws_heldIntS.calls k gA0 gc0 n2 1 q u10 zC nL0 Bq
 rw [← nX0.out] at hc
 refine hc.mono ?_
 clear hc
 rintro e u11 ⟨rfl, hb⟩
 replace hb := aM hb.below
 have z11 := aM hb.out.size
 have HA : Below u10.heap.size u10 u11 := zB
 have HB : Below w.heap.size w u11 := zB
 go_wp2_with fail
 refine (laws_toDatabase.calls ?_ _ _ _ _ _ _ ?_ ?_ _ ?_ ?_ ?_ ?_ ?h).mono ?_
 (case h => exact zA)
 (iterate 4 (first | exact zC | exact zA))
 rintro e u12 ⟨t12v0, t12v1, rfl, t12o0, t12o1, hb⟩
 obtain ⟨t12A0, t12c0, rfl, t12l0, t12C0⟩ := Kd.R_reads t12o0
 obtain ⟨t12A1, t12c1, rfl, t12l1, t12C1⟩ := Kd.S_reads t12o1
 replace hb := aM hb
 have z12 := aM hb.out.size
 have HA : Below u10.heap.size u10 u12 := zB
 have HB : Below w.heap.size w u12 := zB
 go_wp2_with fail
 refine (impl_NthRepair.calls ?_ _ _ _ _ _ _ _ ?_ ?_ _ ?_ ?_ ?_ ?_ ?h).mono ?_
 (case h => exact zA)
 (iterate 4 (first | exact zC | exact zA))
 rintro e u13 ⟨iv0, rfl, io0, hb⟩
 obtain ⟨iA0, ic0, rfl, il0, iC0⟩ := Kd.R_reads io0
 replace hb := aM hb
 have z13 := aM hb.out.size
 have HA : Below u10.heap.size u10 u13 := zB
 have HB : Below w.heap.size w u13 := zB
 go_wp2_with fail
 refine (laws_eqIntS.calls ?_ _ _ _ _ _ _ ?_ _ ?_ ?_ ?_ ?_ ?h).mono ?_
 (case h => exact zA)
 (iterate 4 (first | exact zC | exact zA))
 rintro e u14 ⟨rfl, hb⟩
 replace hb := aM hb.below
 have z14 := aM hb.out.size
 have HA : Below u10.heap.size u10 u14 := zB
 have HB : Below w.heap.size w u14 := zB
 go_wp2_with fail
 have hc := laws_heldIntS.calls k gA0 gc0 n2 1 q u14 zC nL0 Bq
 rw [← nX0.out] at hc
 refine hc.mono ?_
 clear hc
 rintro e u15 ⟨rfl, hb⟩
 replace hb := aM hb.below
 have z15 := aM hb.out.size
 have HA : Below u10.heap.size u10 u15 := zB
 have HB : Below w.heap.size w u15 := zB
 go_wp2
 go_ret
 exact zE zB

end Go.Proofs.Ytehlhbidmanbmaa.PFnExactNthRepair
