-- Laid by a program of this claim: what the functions come to, some of them proved by hand.
import Derived.Test.YteddnlklfjpgoaaPFnExactSelectFactsx0
import Derived.Test.YteddnlklfjpgoaaPFnExactSelectFactsx1
import Derived.Test.YteddnlklfjpgoaaPFnExactSelectFactsx3
import Derived.Test.YteddnlklfjpgoaaPFnExactSelectFactsx4
import Derived.Test.YteddnlklfjpgoaaPFnExactSelectFactsx7
import Derived.Test.YteddnlklfjpgoaaPFnExactSelectFactsx8
import Derived.Test.YteddnlklfjpgoaaPFnExactSelectFactsx9
namespace Go.Proofs.Yteddnlklfjpgoaa.PFnExactSelectFacts
open Go.RowKit Go.Proofs.YteddnlklfjpgoaaW.PrintWords Go.Proofs.YteddnlklfjpgoaaW.PrintLast Go.Proofs.YteddnlklfjpgoaaW.PrintMore
attribute [local go_sem] max2_int min2_int max_two min_two max_three min_three max_four min_four   -- for this text's walks alone
set_option linter.unusedVariables false
set_option linter.unusedSimpArgs false

/-! ### laws_FnExactSelectFacts: function 3 -/
def laws_FnExactSelectFacts.f (k : Nat) (l0_0 : List S78) (l0_1 : List S42) (l1 : List Int) : Option Bool := if (l1.length : Int) > 1048576 then some true else (laws_szDatabase.f k l0_0 l0_1 1048576).bind fun t0 => if t0 < 0 then some true else (laws_toDatabase.f k l0_0 l0_1).bind fun d => (laws_toIntS.f k l1).bind fun x1 => (spec_SelectFacts.f k d.1 d.2 x1).bind fun s => (impl_SelectFacts.f k d.1 d.2 x1).bind fun g => (laws_eqDatabase.f k g.1 g.2.1 s.1 s.2.1).bind fun b1 => if b1 = true then (if (g.2.2 == s.2.2) = true then ((laws_eqDatabase.f k d.1 d.2 d.1 d.2).bind fun b2 => if b2 = true then ((laws_eqIntS.f k x1 x1).bind fun b3 => if b3 = true then ((laws_markDatabase.f k d.1 d.2 1).bind fun m => (laws_markIntS.f k x1 m.1).bind fun mx => if mx.1 < 0 then some false else ((laws_markDatabase.f k g.1 g.2.1 1).bind fun mg => (laws_heldDatabase.f k mg.2.1 mg.2.2 1).bind fun q => if q < 0 then some false else if q = mg.1 then some true else some false)) else some false) else some false) else some false) else some false
set_option maxHeartbeats 8000000 in
set_option maxRecDepth 100000 in
theorem laws_FnExactSelectFacts.calls (k : Nat) (A0_0 : Option Addr) (c0_0 : Nat) (l0_0 : List S78) (A0_1 : Option Addr) (c0_1 : Nat) (l0_1 : List S42) (A1 : Option Addr) (c1 : Nat) (l1 : List Int) (r : Bool) (w : World) (hr0_0 : Kd.C k78 w A0_0 l0_0.length l0_0) (hc0_0 : l0_0.length ≤ c0_0) (hr0_1 : Kd.C k42 w A0_1 l0_1.length l0_1) (hc0_1 : l0_1.length ≤ c0_1) (hr1 : Kd.C (Kd.int .i64) w A1 l1.length l1) (hc1 : l1.length ≤ c1) (h : laws_FnExactSelectFacts.f k l0_0 l0_1 l1 = some r) (hr_ : r = true) :
  Calls Try.prog 3 #[.agg #[.slice A0_0 l0_0.length c0_0, .slice A0_1 l0_1.length c0_1], .slice A1 l1.length c1] w fun e w' => e = .returned (.bool r) ∧ Below w.heap.size w w' := by
 subst hr_
 have hu25 := Try.underlying25
 have hu31 := Try.underlying31
 obtain ⟨W, hW⟩ : ∃ W, w.alloc (.cells #[.slice A0_0 l0_0.length c0_0, .slice A0_1 l0_1.length c0_1] 25) = W := ⟨_, rfl⟩
 have bx0 : W.heap[w.heap.size]? = some (.cells #[.slice A0_0 l0_0.length c0_0, .slice A0_1 l0_1.length c0_1] 25 (0, 0)) := by subst hW; first | exact heap_alloc_new _ _ | exact blk_alloc (heap_alloc_new _ _) _ | (have := heap_alloc_new (w.alloc (.cells #[.slice A0_0 l0_0.length c0_0, .slice A0_1 l0_1.length c0_1] 25)) (.cells #[.slice A0_0 l0_0.length c0_0, .slice A0_1 l0_1.length c0_1] 25); simpa using this)
 have HB : Below w.heap.size w W := by subst hW; exact zB
 have hb := aM HB
 have HA := Below.refl W.heap.size W
 have z0 := aM HB.size
 have zl := aM (show w.heap.size < W.heap.size by subst hW; simp)
 have qbx0_0 := qa (w := W) ((blk_cell bx0 0).trans rfl)
 have qbx0_1 := qa (w := W) ((blk_cell bx0 1).trans rfl)
 have rg_ := @bcl w
 have rd_ := @bdr w
 unfold laws_FnExactSelectFacts.f at h
 replace h := ig h; rcases h with ⟨cl, cla, h⟩ | ⟨cl, cla, h⟩
 ·(have clx : decide (1048576 < l1.length) = true := decide_eq_true (by have := cl.out; omega)); go_enter Try.func3, Try.ntmps3; go_wp2; go_ret; exact zE zB
 have clx : decide (1048576 < l1.length) = false := decide_eq_false (by have := cl.out; omega)
 replace h := bs h; obtain ⟨t0, B0, h⟩ := h
 replace h := il h; rcases h with ⟨c0, c0a, h⟩ | ⟨c0, c0a, h⟩
 go_enter Try.func3, Try.ntmps3
 go_wp2_with (first | (go_at_call 7; refine (laws_szDatabase.calls ?_ _ _ _ _ _ _ _ ?_ _ ?_ ?_ ?_ ?_ ?h).mono ?_; (case h => exact zA); (iterate 4 (first | exact zC | exact zA)); rintro e w1 ⟨rfl, hb⟩; replace hb := aM hb; have HB : Below w.heap.size w w1 := zB))
 go_ret
 exact zE zB
 replace h := bs h; obtain ⟨⟨d1, d2⟩, Bd, h⟩ := h
 replace h := bs h; obtain ⟨x1, Bx, h⟩ := h
 replace h := bs h; obtain ⟨⟨s1, s2, sb⟩, Bs, h⟩ := h
 replace h := bs h; obtain ⟨⟨g1, g2, gb⟩, Bg, h⟩ := h
 dsimp only at h Bs Bg
 replace h := bs h; obtain ⟨b1, Be, h⟩ := h
 replace h := ib h; rcases h with ⟨rfl, h⟩ | ⟨rfl, h⟩
 rotate_left
 exact absurd (si h) (by decide)
 replace h := ib h; rcases h with ⟨eb, h⟩ | ⟨eb, h⟩
 rotate_left
 exact absurd (si h) (by decide)
 obtain rfl : gb = sb := by simpa using eb
 clear eb
 replace h := bs h; obtain ⟨b2, Be2, h⟩ := h
 replace h := ib h; rcases h with ⟨rfl, h⟩ | ⟨rfl, h⟩
 rotate_left
 exact absurd (si h) (by decide)
 replace h := bs h; obtain ⟨b3, Be3, h⟩ := h
 replace h := ib h; rcases h with ⟨rfl, h⟩ | ⟨rfl, h⟩
 rotate_left
 exact absurd (si h) (by decide)
 replace h := bs h; obtain ⟨⟨m1, m2, m3⟩, Bm, h⟩ := h
 replace h := bs h; obtain ⟨⟨mx1, mx2⟩, Bmx, h⟩ := h
 dsimp only at h
 replace h := il h; rcases h with ⟨cm, cma, h⟩ | ⟨cm, cma, h⟩
 exact absurd (si h) (by decide)
 replace h := bs h; obtain ⟨⟨n1, n2, n3⟩, Bn, h⟩ := h
 replace h := bs h; obtain ⟨q, Bq, h⟩ := h
 dsimp only at h Bq
 replace h := il h; rcases h with ⟨cq, cqa, h⟩ | ⟨cq, cqa, h⟩
 exact absurd (si h) (by decide)
 replace h := iq h; rcases h with ⟨ce, ⟨cea, ceb⟩, h⟩ | ⟨ce, ⟨cea, ceb⟩, h⟩
 rotate_left
 exact absurd (si h) (by decide)
 obtain rfl := ce.out
 clear h ce cea ceb
 go_enter Try.func3, Try.ntmps3
 go_wp2_with fail
 refine (laws_szDatabase.calls ?_ _ _ _ _ _ _ _ ?_ _ ?_ ?_ ?_ ?_ ?h).mono ?_; (case h => exact zA)
 (iterate 4 (first | exact zC | exact zA))
 rintro e u1 ⟨rfl, hb⟩
 replace hb := aM hb
 have z1 := aM hb.out.size
 have HA : Below W.heap.size W u1 := zB
 have HB : Below w.heap.size w u1 := zB
 go_wp2_with fail
 refine (laws_toDatabase.calls ?_ _ _ _ _ _ _ ?_ ?_ _ ?_ ?_ ?_ ?_ ?h).mono ?_; (case h => exact zA)
 (iterate 4 (first | exact zC | exact zA))
 rintro e u2 ⟨t2v0, t2v1, rfl, t2o0, t2o1, hb⟩
 obtain ⟨t2A0, t2c0, rfl, t2l0, t2C0⟩ := Kd.R_reads t2o0
 obtain ⟨t2A1, t2c1, rfl, t2l1, t2C1⟩ := Kd.R_reads (Kd.S_R t2o1)
 replace hb := aM hb
 have z2 := aM hb.out.size
 have HA : Below W.heap.size W u2 := zB
 have HB : Below w.heap.size w u2 := zB
 go_wp2_with fail
 refine (laws_toIntS.calls ?_ _ _ _ ?_ _ ?_ ?_ ?h).mono ?_; (case h => exact zA)
 (iterate 2 (first | exact zC | exact zA))
 rintro e u3 ⟨t3v0, rfl, t3o0, hb⟩
 obtain ⟨t3A0, t3c0, rfl, t3l0, t3C0⟩ := Kd.R_reads t3o0
 replace hb := aM hb
 have z3 := aM hb.out.size
 have HA : Below W.heap.size W u3 := zB
 have HB : Below w.heap.size w u3 := zB
 go_wp2_with fail
 refine (spec_SelectFacts.calls ?_ _ _ _ _ _ _ _ _ _ ?_ ?_ ?_ _ ?_ ?_ ?_ ?_ ?_ ?_ ?h).mono ?_; (case h => exact zA)
 (iterate 6 (first | exact zC | exact zA))
 rintro e u4 ⟨sv0, sv1, rfl, so0, so1, hb⟩
 obtain ⟨sA0, sc0, rfl, sl0, sC0⟩ := Kd.R_reads so0
 obtain ⟨sA1, sc1, rfl, sl1, sC1⟩ := Kd.R_reads (Kd.S_R so1)
 replace hb := aM hb
 have z4 := aM hb.out.size
 have HA : Below W.heap.size W u4 := zB
 have HB : Below w.heap.size w u4 := zB
 obtain ⟨W4, hW4⟩ : ∃ W_, u4.alloc (.cells #[.slice sA0 s1.length sc0, .slice sA1 s2.length sc1] 31) = W_ := ⟨_, rfl⟩
 have bxs : W4.heap[u4.heap.size]? = some (.cells #[.slice sA0 s1.length sc0, .slice sA1 s2.length sc1] 31 (0, 0)) := by subst hW4; exact heap_alloc_new _ _
 have hb : Aside0 (Below u4.heap.size u4 W4) := ⟨by subst hW4; exact below_alloc (Below.refl _ _) _⟩
 have bx0 := blk_below bx0 (zB (w := W) (w' := W4))
 clear qbx0_0 qbx0_1
 clear HA
 have z4b := aM (show u4.heap.size < W4.heap.size by subst hW4; simp)
 have qbx0_0 := qa (w := W4) ((blk_cell bx0 0).trans rfl)
 have qbx0_1 := qa (w := W4) ((blk_cell bx0 1).trans rfl)
 have qbxs_0 := qa (w := W4) ((blk_cell bxs 0).trans rfl)
 have qbxs_1 := qa (w := W4) ((blk_cell bxs 1).trans rfl)
 have HA := Below.refl W4.heap.size W4
 have HB : Below w.heap.size w W4 := zB
 go_wp2_with fail
 refine (laws_toDatabase.calls ?_ _ _ _ _ _ _ ?_ ?_ _ ?_ ?_ ?_ ?_ ?h).mono ?_; (case h => exact zA)
 (iterate 4 (first | exact zC | exact zA))
 rintro e u5 ⟨xv0, xv1, rfl, xo0, xo1, hb⟩
 obtain ⟨xA0, xc0, rfl, xl0, xC0⟩ := Kd.R_reads xo0
 obtain ⟨xA1, xc1, rfl, xl1, xC1⟩ := Kd.R_reads (Kd.S_R xo1)
 replace hb := aM hb
 have z5 := aM hb.out.size
 have HA : Below W4.heap.size W4 u5 := zB
 have HB : Below w.heap.size w u5 := zB
 obtain ⟨W5, hW5⟩ : ∃ W_, u5.alloc (.cells #[.slice xA0 d1.length xc0, .slice xA1 d2.length xc1] 31) = W_ := ⟨_, rfl⟩
 have bxx : W5.heap[u5.heap.size]? = some (.cells #[.slice xA0 d1.length xc0, .slice xA1 d2.length xc1] 31 (0, 0)) := by subst hW5; exact heap_alloc_new _ _
 have hb : Aside0 (Below u5.heap.size u5 W5) := ⟨by subst hW5; exact below_alloc (Below.refl _ _) _⟩
 have bx0 := blk_below bx0 (zB (w := W4) (w' := W5))
 clear qbx0_0 qbx0_1
 have bxs := blk_below bxs (zB (w := W4) (w' := W5))
 clear qbxs_0 qbxs_1
 clear HA
 have z5b := aM (show u5.heap.size < W5.heap.size by subst hW5; simp)
 have qbx0_0 := qa (w := W5) ((blk_cell bx0 0).trans rfl)
 have qbx0_1 := qa (w := W5) ((blk_cell bx0 1).trans rfl)
 have qbxs_0 := qa (w := W5) ((blk_cell bxs 0).trans rfl)
 have qbxs_1 := qa (w := W5) ((blk_cell bxs 1).trans rfl)
 have qbxx_0 := qa (w := W5) ((blk_cell bxx 0).trans rfl)
 have qbxx_1 := qa (w := W5) ((blk_cell bxx 1).trans rfl)
 have HA := Below.refl W5.heap.size W5
 have HB : Below w.heap.size w W5 := zB
 go_wp2_with fail
 refine (laws_toIntS.calls ?_ _ _ _ ?_ _ ?_ ?_ ?h).mono ?_; (case h => exact zA)
 (iterate 2 (first | exact zC | exact zA))
 rintro e u6 ⟨yv0, rfl, yo0, hb⟩
 obtain ⟨yA0, yc0, rfl, yl0, yC0⟩ := Kd.R_reads yo0
 replace hb := aM hb
 have z6 := aM hb.out.size
 have HA : Below W5.heap.size W5 u6 := zB
 have HB : Below w.heap.size w u6 := zB
 go_wp2_with fail
 refine (impl_SelectFacts.calls ?_ _ _ _ _ _ _ _ _ _ ?_ ?_ ?_ _ ?_ ?_ ?_ ?_ ?_ ?_ ?h).mono ?_; (case h => exact zA)
 (iterate 6 (first | exact zC | exact zA))
 rintro e u7 ⟨gv0, gv1, rfl, go0, go1, hb⟩
 obtain ⟨gA0, gc0, rfl, gl0, gC0⟩ := Kd.R_reads go0
 obtain ⟨gA1, gc1, rfl, gl1, gC1⟩ := Kd.R_reads (Kd.S_R go1)
 replace hb := aM hb
 have z7 := aM hb.out.size
 have HA : Below W5.heap.size W5 u7 := zB
 have HB : Below w.heap.size w u7 := zB
 obtain ⟨W7, hW7⟩ : ∃ W_, u7.alloc (.cells #[.slice gA0 g1.length gc0, .slice gA1 g2.length gc1] 31) = W_ := ⟨_, rfl⟩
 have bxg : W7.heap[u7.heap.size]? = some (.cells #[.slice gA0 g1.length gc0, .slice gA1 g2.length gc1] 31 (0, 0)) := by subst hW7; exact heap_alloc_new _ _
 have hb : Aside0 (Below u7.heap.size u7 W7) := ⟨by subst hW7; exact below_alloc (Below.refl _ _) _⟩
 have bx0 := blk_below bx0 (zB (w := W5) (w' := W7))
 clear qbx0_0 qbx0_1
 have bxs := blk_below bxs (zB (w := W5) (w' := W7))
 clear qbxs_0 qbxs_1
 have bxx := blk_below bxx (zB (w := W5) (w' := W7))
 clear qbxx_0 qbxx_1
 clear HA
 have z7b := aM (show u7.heap.size < W7.heap.size by subst hW7; simp)
 have qbx0_0 := qa (w := W7) ((blk_cell bx0 0).trans rfl)
 have qbx0_1 := qa (w := W7) ((blk_cell bx0 1).trans rfl)
 have qbxs_0 := qa (w := W7) ((blk_cell bxs 0).trans rfl)
 have qbxs_1 := qa (w := W7) ((blk_cell bxs 1).trans rfl)
 have qbxx_0 := qa (w := W7) ((blk_cell bxx 0).trans rfl)
 have qbxx_1 := qa (w := W7) ((blk_cell bxx 1).trans rfl)
 have qbxg_0 := qa (w := W7) ((blk_cell bxg 0).trans rfl)
 have qbxg_1 := qa (w := W7) ((blk_cell bxg 1).trans rfl)
 have HA := Below.refl W7.heap.size W7
 have HB : Below w.heap.size w W7 := zB
 go_wp2_with fail
 refine (laws_eqDatabase.calls ?_ _ _ _ _ _ _ _ _ _ _ _ _ ?_ _ ?_ ?_ ?_ ?_ ?_ ?_ ?_ ?_ ?h).mono ?_; (case h => exact zA)
 (iterate 8 (first | exact zC | exact zA))
 rintro e u8 ⟨rfl, hb⟩
 replace hb := aM hb
 have z8 := aM hb.out.size
 have HA : Below W7.heap.size W7 u8 := zB
 have HB : Below w.heap.size w u8 := zB
 go_wp2_with fail
 refine nw (w0 := w) zB ?_
 intro Wd9 HB hb hd
 have HA : Below W7.heap.size W7 Wd9 := zB
 have rG_ := @bcl W7
 have rD_ := @bdr W7
 refine Txt.rg (id := 13) [0, 1, 2, 3, 4] (by kernel_rfl) (by kernel_rfl) ?_
 simp only [List.map_cons, List.map_nil, List.getD_cons_zero, List.getD_cons_succ]
 (repeat (first | (refine Txt.off rfl ?_; simp only [Act.put, List.setIfInBounds_toArray, List.set_cons_zero, List.set_cons_succ]) | (refine Txt.take rfl rfl ?_; intro K hK; go_big_quiet_op; go_big_quiet_on) | (refine Txt.call rfl rfl Try.func9 (by kernel_rfl) rfl (laws_toDatabase.calls ?_ _ _ _ _ _ _ ?_ ?_ _ ?_ ?_ ?_ ?_ ?h) rfl ?_; (case h => exact zA); (iterate 4 (first | exact zC | exact zA)); rintro e w1 ⟨v0, v1, rfl, ho0, ho1, hb⟩; obtain ⟨A0, c0, rfl, hc0, hC0⟩ := Kd.R_reads ho0; obtain ⟨A1, c1, rfl, hc1, hC1⟩ := Kd.R_reads (Kd.S_R ho1); replace hb := aM hb; have HA : Below W7.heap.size W7 w1 := zB; have HB : Below w.heap.size w w1 := zB; refine ⟨_, rfl, zS, ?_⟩; simp only [Act.put, List.setIfInBounds_toArray, List.set_cons_zero, List.set_cons_succ]) | (refine Txt.call rfl rfl Try.func12 (by kernel_rfl) rfl (laws_eqDatabase.calls ?_ _ _ _ _ _ _ _ _ _ _ _ _ ?_ _ ?_ ?_ ?_ ?_ ?_ ?_ ?_ ?_ ?h) rfl ?_; (case h => exact zA); (iterate 8 (first | exact zC | exact zA)); rintro e u9 ⟨rfl, hb⟩; replace hb := aM hb; have HA : Below W7.heap.size W7 u9 := zB; have HB : Below w.heap.size w u9 := zB; refine ⟨_, rfl, zS, ?_⟩; simp only [Act.put, List.setIfInBounds_toArray, List.set_cons_zero, List.set_cons_succ])))
 refine Txt.nil ?_
 have z9 := aM (zB (w := u8) (w' := u9)).size
 clear rG_ rD_
 go_wp2_with fail
 refine (laws_toIntS.calls ?_ _ _ _ ?_ _ ?_ ?_ ?h).mono ?_; (case h => exact zA)
 (iterate 2 (first | exact zC | exact zA))
 rintro e u10 ⟨t10v0, rfl, t10o0, hb⟩
 obtain ⟨t10A0, t10c0, rfl, t10l0, t10C0⟩ := Kd.R_reads t10o0
 replace hb := aM hb
 have z10 := aM hb.out.size
 have HA : Below W7.heap.size W7 u10 := zB
 have HB : Below w.heap.size w u10 := zB
 go_wp2_with fail
 refine (laws_eqIntS.calls ?_ _ _ _ _ _ _ ?_ _ ?_ ?_ ?_ ?_ ?h).mono ?_; (case h => exact zA)
 (iterate 4 (first | exact zC | exact zA))
 rintro e u11 ⟨rfl, hb⟩
 replace hb := aM hb.below
 have z11 := aM hb.out.size
 have HA : Below W7.heap.size W7 u11 := zB
 have HB : Below w.heap.size w u11 := zB
 have xH11_0 := Kd.R_lower (R_iv xo0 (zB (w := u5) (w' := u11))) (show w.heap.size ≤ _ by have := z0.out; have := zl.out; have := z1.out; have := z2.out; have := z3.out; have := z4.out; have := z4b.out; have := z5.out; have := z5b.out; have := z6.out; have := z7.out; have := z7b.out; have := z8.out; have := z9.out; have := z10.out; have := z11.out; omega)
 have xH11_1 := Kd.S_lower (S_iv xo1 (zB (w := u5) (w' := u11))) (show w.heap.size ≤ _ by have := z0.out; have := zl.out; have := z1.out; have := z2.out; have := z3.out; have := z4.out; have := z4b.out; have := z5.out; have := z5b.out; have := z6.out; have := z7.out; have := z7b.out; have := z8.out; have := z9.out; have := z10.out; have := z11.out; omega)
 go_wp2_with fail
 refine (laws_markDatabase.calls k _ _ _ _ _ _ 1 _ _ _ w _ HB xH11_0 xH11_1 (fun k_ a_ b_ => Ty.ne a_.2 b_.2 (by decide)) Bm).mono ?_
 rintro e u12 ⟨rfl, -, -, hB, hK⟩
 replace hK : Kept u11 u12 (Iv W4.heap.size u5.heap.size) := kept_iv hK (fun k_ h_ => h_.elim (fun h_ => h_.1) (fun h_ => h_.1))
 have bx0 := blk_past (blk_below bx0 (zB (w := W7) (w' := u11))) hK (by have := z0.out; have := zl.out; have := z1.out; have := z2.out; have := z3.out; have := z4.out; have := z4b.out; have := z5.out; have := z5b.out; have := z6.out; have := z7.out; have := z7b.out; have := z8.out; have := z9.out; have := z10.out; have := z11.out; omega)
 have bxs := blk_past (blk_below bxs (zB (w := W7) (w' := u11))) hK (by have := z0.out; have := zl.out; have := z1.out; have := z2.out; have := z3.out; have := z4.out; have := z4b.out; have := z5.out; have := z5b.out; have := z6.out; have := z7.out; have := z7b.out; have := z8.out; have := z9.out; have := z10.out; have := z11.out; omega)
 have bxx := blk_past (blk_below bxx (zB (w := W7) (w' := u11))) hK (by have := z0.out; have := zl.out; have := z1.out; have := z2.out; have := z3.out; have := z4.out; have := z4b.out; have := z5.out; have := z5b.out; have := z6.out; have := z7.out; have := z7b.out; have := z8.out; have := z9.out; have := z10.out; have := z11.out; omega)
 have bxg := blk_past (blk_below bxg (zB (w := W7) (w' := u11))) hK (by have := z0.out; have := zl.out; have := z1.out; have := z2.out; have := z3.out; have := z4.out; have := z4b.out; have := z5.out; have := z5b.out; have := z6.out; have := z7.out; have := z7b.out; have := z8.out; have := z9.out; have := z10.out; have := z11.out; omega)
 have sH12_0 := Kd.R_lower (R_iv so0 (zB (w := u4) (w' := u11))) (show w.heap.size ≤ _ by have := z0.out; have := zl.out; have := z1.out; have := z2.out; have := z3.out; have := z4.out; have := z4b.out; have := z5.out; have := z5b.out; have := z6.out; have := z7.out; have := z7b.out; have := z8.out; have := z9.out; have := z10.out; have := z11.out; omega)
 have sH12_1 := Kd.S_lower (S_iv so1 (zB (w := u4) (w' := u11))) (show w.heap.size ≤ _ by have := z0.out; have := zl.out; have := z1.out; have := z2.out; have := z3.out; have := z4.out; have := z4b.out; have := z5.out; have := z5b.out; have := z6.out; have := z7.out; have := z7b.out; have := z8.out; have := z9.out; have := z10.out; have := z11.out; omega)
 have sH12_0_12 := R_past sH12_0 hK (by have := z0.out; have := zl.out; have := z1.out; have := z2.out; have := z3.out; have := z4.out; have := z4b.out; have := z5.out; have := z5b.out; have := z6.out; have := z7.out; have := z7b.out; have := z8.out; have := z9.out; have := z10.out; have := z11.out; omega)
 have sC0 := (Kd.R_reads' sH12_0_12).2.2
 have sH12_1_12 := S_past sH12_1 hK (by have := z0.out; have := zl.out; have := z1.out; have := z2.out; have := z3.out; have := z4.out; have := z4b.out; have := z5.out; have := z5b.out; have := z6.out; have := z7.out; have := z7b.out; have := z8.out; have := z9.out; have := z10.out; have := z11.out; omega)
 have sC1 := (Kd.S_reads' sH12_1_12).2.2
 have gH12_0 := Kd.R_lower (R_iv go0 (zB (w := u7) (w' := u11))) (show w.heap.size ≤ _ by have := z0.out; have := zl.out; have := z1.out; have := z2.out; have := z3.out; have := z4.out; have := z4b.out; have := z5.out; have := z5b.out; have := z6.out; have := z7.out; have := z7b.out; have := z8.out; have := z9.out; have := z10.out; have := z11.out; omega)
 have gH12_1 := Kd.S_lower (S_iv go1 (zB (w := u7) (w' := u11))) (show w.heap.size ≤ _ by have := z0.out; have := zl.out; have := z1.out; have := z2.out; have := z3.out; have := z4.out; have := z4b.out; have := z5.out; have := z5b.out; have := z6.out; have := z7.out; have := z7b.out; have := z8.out; have := z9.out; have := z10.out; have := z11.out; omega)
 have gH12_0_12 := R_past gH12_0 hK (by have := z0.out; have := zl.out; have := z1.out; have := z2.out; have := z3.out; have := z4.out; have := z4b.out; have := z5.out; have := z5b.out; have := z6.out; have := z7.out; have := z7b.out; have := z8.out; have := z9.out; have := z10.out; have := z11.out; omega)
 have gC0 := (Kd.R_reads' gH12_0_12).2.2
 have gH12_1_12 := S_past gH12_1 hK (by have := z0.out; have := zl.out; have := z1.out; have := z2.out; have := z3.out; have := z4.out; have := z4b.out; have := z5.out; have := z5b.out; have := z6.out; have := z7.out; have := z7b.out; have := z8.out; have := z9.out; have := z10.out; have := z11.out; omega)
 have gC1 := (Kd.S_reads' gH12_1_12).2.2
 have yH12_0 := Kd.R_lower (R_iv yo0 (zB (w := u6) (w' := u11))) (show w.heap.size ≤ _ by have := z0.out; have := zl.out; have := z1.out; have := z2.out; have := z3.out; have := z4.out; have := z4b.out; have := z5.out; have := z5b.out; have := z6.out; have := z7.out; have := z7b.out; have := z8.out; have := z9.out; have := z10.out; have := z11.out; omega)
 have yH12_0_12 := R_past yH12_0 hK (by have := z0.out; have := zl.out; have := z1.out; have := z2.out; have := z3.out; have := z4.out; have := z4b.out; have := z5.out; have := z5b.out; have := z6.out; have := z7.out; have := z7b.out; have := z8.out; have := z9.out; have := z10.out; have := z11.out; omega)
 have yC0 := (Kd.R_reads' yH12_0_12).2.2
 have HB := hB
 have z12 := aM hK.1
 clear HA
 clear qbx0_0 qbx0_1
 clear qbxs_0 qbxs_1
 clear qbxx_0 qbxx_1
 clear qbxg_0 qbxg_1
 have qbx0_0 := qa (w := u12) ((blk_cell bx0 0).trans rfl)
 have qbx0_1 := qa (w := u12) ((blk_cell bx0 1).trans rfl)
 have qbxs_0 := qa (w := u12) ((blk_cell bxs 0).trans rfl)
 have qbxs_1 := qa (w := u12) ((blk_cell bxs 1).trans rfl)
 have qbxx_0 := qa (w := u12) ((blk_cell bxx 0).trans rfl)
 have qbxx_1 := qa (w := u12) ((blk_cell bxx 1).trans rfl)
 have qbxg_0 := qa (w := u12) ((blk_cell bxg 0).trans rfl)
 have qbxg_1 := qa (w := u12) ((blk_cell bxg 1).trans rfl)
 have HA := Below.refl u12.heap.size u12
 have yH12_0 := R_at yH12_0_12 (zB (w := u12) (w' := u12))
 go_wp2_with fail
 refine (laws_markIntS.calls k _ _ _ m1 _ _ w _ HB yH12_0 Bmx).mono ?_
 rintro e u13 ⟨rfl, -, hB, hK⟩
 replace hK : Kept u12 u13 (Iv W5.heap.size u6.heap.size) := kept_iv hK (fun k_ h_ => h_.1)
 have bx0 := blk_past (blk_below bx0 (zB (w := u12) (w' := u12))) hK (by have := z0.out; have := zl.out; have := z1.out; have := z2.out; have := z3.out; have := z4.out; have := z4b.out; have := z5.out; have := z5b.out; have := z6.out; have := z7.out; have := z7b.out; have := z8.out; have := z9.out; have := z10.out; have := z11.out; have := z12.out; omega)
 have bxs := blk_past (blk_below bxs (zB (w := u12) (w' := u12))) hK (by have := z0.out; have := zl.out; have := z1.out; have := z2.out; have := z3.out; have := z4.out; have := z4b.out; have := z5.out; have := z5b.out; have := z6.out; have := z7.out; have := z7b.out; have := z8.out; have := z9.out; have := z10.out; have := z11.out; have := z12.out; omega)
 have bxx := blk_past (blk_below bxx (zB (w := u12) (w' := u12))) hK (by have := z0.out; have := zl.out; have := z1.out; have := z2.out; have := z3.out; have := z4.out; have := z4b.out; have := z5.out; have := z5b.out; have := z6.out; have := z7.out; have := z7b.out; have := z8.out; have := z9.out; have := z10.out; have := z11.out; have := z12.out; omega)
 have bxg := blk_past (blk_below bxg (zB (w := u12) (w' := u12))) hK (by have := z0.out; have := zl.out; have := z1.out; have := z2.out; have := z3.out; have := z4.out; have := z4b.out; have := z5.out; have := z5b.out; have := z6.out; have := z7.out; have := z7b.out; have := z8.out; have := z9.out; have := z10.out; have := z11.out; have := z12.out; omega)
 have sH13_0 := R_at sH12_0_12 (zB (w := u12) (w' := u12))
 have sH13_1 := S_at sH12_1_12 (zB (w := u12) (w' := u12))
 have sH13_0_13 := R_past sH13_0 hK (by have := z0.out; have := zl.out; have := z1.out; have := z2.out; have := z3.out; have := z4.out; have := z4b.out; have := z5.out; have := z5b.out; have := z6.out; have := z7.out; have := z7b.out; have := z8.out; have := z9.out; have := z10.out; have := z11.out; have := z12.out; omega)
 have sC0 := (Kd.R_reads' sH13_0_13).2.2
 have sH13_1_13 := S_past sH13_1 hK (by have := z0.out; have := zl.out; have := z1.out; have := z2.out; have := z3.out; have := z4.out; have := z4b.out; have := z5.out; have := z5b.out; have := z6.out; have := z7.out; have := z7b.out; have := z8.out; have := z9.out; have := z10.out; have := z11.out; have := z12.out; omega)
 have sC1 := (Kd.S_reads' sH13_1_13).2.2
 have gH13_0 := R_at gH12_0_12 (zB (w := u12) (w' := u12))
 have gH13_1 := S_at gH12_1_12 (zB (w := u12) (w' := u12))
 have gH13_0_13 := R_past gH13_0 hK (by have := z0.out; have := zl.out; have := z1.out; have := z2.out; have := z3.out; have := z4.out; have := z4b.out; have := z5.out; have := z5b.out; have := z6.out; have := z7.out; have := z7b.out; have := z8.out; have := z9.out; have := z10.out; have := z11.out; have := z12.out; omega)
 have gC0 := (Kd.R_reads' gH13_0_13).2.2
 have gH13_1_13 := S_past gH13_1 hK (by have := z0.out; have := zl.out; have := z1.out; have := z2.out; have := z3.out; have := z4.out; have := z4b.out; have := z5.out; have := z5b.out; have := z6.out; have := z7.out; have := z7b.out; have := z8.out; have := z9.out; have := z10.out; have := z11.out; have := z12.out; omega)
 have gC1 := (Kd.S_reads' gH13_1_13).2.2
 have HB := hB
 have z13 := aM hK.1
 clear HA
 clear qbx0_0 qbx0_1
 clear qbxs_0 qbxs_1
 clear qbxx_0 qbxx_1
 clear qbxg_0 qbxg_1
 have qbx0_0 := qa (w := u13) ((blk_cell bx0 0).trans rfl)
 have qbx0_1 := qa (w := u13) ((blk_cell bx0 1).trans rfl)
 have qbxs_0 := qa (w := u13) ((blk_cell bxs 0).trans rfl)
 have qbxs_1 := qa (w := u13) ((blk_cell bxs 1).trans rfl)
 have qbxx_0 := qa (w := u13) ((blk_cell bxx 0).trans rfl)
 have qbxx_1 := qa (w := u13) ((blk_cell bxx 1).trans rfl)
 have qbxg_0 := qa (w := u13) ((blk_cell bxg 0).trans rfl)
 have qbxg_1 := qa (w := u13) ((blk_cell bxg 1).trans rfl)
 have HA := Below.refl u13.heap.size u13
 go_wp2_with fail
 refine (laws_eqDatabase.calls ?_ _ _ _ _ _ _ _ _ _ _ _ _ ?_ _ ?_ ?_ ?_ ?_ ?_ ?_ ?_ ?_ ?h).mono ?_; (case h => exact zA)
 (iterate 8 (first | exact zC | exact zA))
 rintro e u14 ⟨rfl, hb⟩
 replace hb := aM hb
 have z14 := aM hb.out.size
 have HA : Below u13.heap.size u13 u14 := zB
 have HB : Below w.heap.size w u14 := zB
 have gH14_0 := R_at gH13_0_13 (zB (w := u13) (w' := u14))
 have gH14_1 := S_at gH13_1_13 (zB (w := u13) (w' := u14))
 go_wp2_with fail
 refine (laws_markDatabase.calls k _ _ _ _ _ _ 1 _ _ _ w _ HB gH14_0 gH14_1 (fun k_ a_ b_ => Ty.ne a_.2 b_.2 (by decide)) Bn).mono ?_
 rintro e u15 ⟨rfl, mR0, mR1, hB, hK⟩
 replace hK : Kept u14 u15 (Iv u6.heap.size u7.heap.size) := kept_iv hK (fun k_ h_ => h_.elim (fun h_ => h_.1) (fun h_ => h_.1))
 have bx0 := blk_past (blk_below bx0 (zB (w := u13) (w' := u14))) hK (by have := z0.out; have := zl.out; have := z1.out; have := z2.out; have := z3.out; have := z4.out; have := z4b.out; have := z5.out; have := z5b.out; have := z6.out; have := z7.out; have := z7b.out; have := z8.out; have := z9.out; have := z10.out; have := z11.out; have := z12.out; have := z13.out; have := z14.out; omega)
 have bxs := blk_past (blk_below bxs (zB (w := u13) (w' := u14))) hK (by have := z0.out; have := zl.out; have := z1.out; have := z2.out; have := z3.out; have := z4.out; have := z4b.out; have := z5.out; have := z5b.out; have := z6.out; have := z7.out; have := z7b.out; have := z8.out; have := z9.out; have := z10.out; have := z11.out; have := z12.out; have := z13.out; have := z14.out; omega)
 have bxx := blk_past (blk_below bxx (zB (w := u13) (w' := u14))) hK (by have := z0.out; have := zl.out; have := z1.out; have := z2.out; have := z3.out; have := z4.out; have := z4b.out; have := z5.out; have := z5b.out; have := z6.out; have := z7.out; have := z7b.out; have := z8.out; have := z9.out; have := z10.out; have := z11.out; have := z12.out; have := z13.out; have := z14.out; omega)
 have bxg := blk_past (blk_below bxg (zB (w := u13) (w' := u14))) hK (by have := z0.out; have := zl.out; have := z1.out; have := z2.out; have := z3.out; have := z4.out; have := z4b.out; have := z5.out; have := z5b.out; have := z6.out; have := z7.out; have := z7b.out; have := z8.out; have := z9.out; have := z10.out; have := z11.out; have := z12.out; have := z13.out; have := z14.out; omega)
 have sH15_0 := R_at sH13_0_13 (zB (w := u13) (w' := u14))
 have sH15_1 := S_at sH13_1_13 (zB (w := u13) (w' := u14))
 have sH15_0_15 := R_past sH15_0 hK (by have := z0.out; have := zl.out; have := z1.out; have := z2.out; have := z3.out; have := z4.out; have := z4b.out; have := z5.out; have := z5b.out; have := z6.out; have := z7.out; have := z7b.out; have := z8.out; have := z9.out; have := z10.out; have := z11.out; have := z12.out; have := z13.out; have := z14.out; omega)
 have sC0 := (Kd.R_reads' sH15_0_15).2.2
 have sH15_1_15 := S_past sH15_1 hK (by have := z0.out; have := zl.out; have := z1.out; have := z2.out; have := z3.out; have := z4.out; have := z4b.out; have := z5.out; have := z5b.out; have := z6.out; have := z7.out; have := z7b.out; have := z8.out; have := z9.out; have := z10.out; have := z11.out; have := z12.out; have := z13.out; have := z14.out; omega)
 have sC1 := (Kd.S_reads' sH15_1_15).2.2
 have HB := hB
 have z15 := aM hK.1
 clear HA
 clear qbx0_0 qbx0_1
 clear qbxs_0 qbxs_1
 clear qbxx_0 qbxx_1
 clear qbxg_0 qbxg_1
 have qbx0_0 := qa (w := u15) ((blk_cell bx0 0).trans rfl)
 have qbx0_1 := qa (w := u15) ((blk_cell bx0 1).trans rfl)
 have qbxs_0 := qa (w := u15) ((blk_cell bxs 0).trans rfl)
 have qbxs_1 := qa (w := u15) ((blk_cell bxs 1).trans rfl)
 have qbxx_0 := qa (w := u15) ((blk_cell bxx 0).trans rfl)
 have qbxx_1 := qa (w := u15) ((blk_cell bxx 1).trans rfl)
 have qbxg_0 := qa (w := u15) ((blk_cell bxg 0).trans rfl)
 have qbxg_1 := qa (w := u15) ((blk_cell bxg 1).trans rfl)
 have HA := Below.refl u15.heap.size u15
 have nE0 := (Kd.R_reads' mR0).1
 have nC0 := (Kd.R_reads' mR0).2.2
 have nL0 : n2.length ≤ gc0 := nE0 ▸ gl0
 have nX0 := aM nE0
 clear nE0 mR0
 have nE1 := (Kd.S_reads' mR1).1
 have nC1 := (Kd.S_reads' mR1).2.2
 have nL1 : n3.length ≤ gc1 := nE1 ▸ gl1
 have nX1 := aM nE1
 clear nE1 mR1
 go_wp2_with fail
 have hc := laws_heldDatabase.calls k gA0 gc0 n2 gA1 gc1 n3 1 q u15 zC nL0 zC nL1 Bq
 rw [← nX0.out] at hc
 rw [← nX1.out] at hc
 refine hc.mono ?_
 clear hc
 rintro e u16 ⟨rfl, hb⟩
 replace hb := aM hb
 have z16 := aM hb.out.size
 have HA : Below u15.heap.size u15 u16 := zB
 have HB : Below w.heap.size w u16 := zB
 go_wp2_with fail
 refine (laws_toDatabase.calls ?_ _ _ _ _ _ _ ?_ ?_ _ ?_ ?_ ?_ ?_ ?h).mono ?_; (case h => exact zA)
 (iterate 4 (first | exact zC | exact zA))
 rintro e u17 ⟨t17v0, t17v1, rfl, t17o0, t17o1, hb⟩
 obtain ⟨t17A0, t17c0, rfl, t17l0, t17C0⟩ := Kd.R_reads t17o0
 obtain ⟨t17A1, t17c1, rfl, t17l1, t17C1⟩ := Kd.R_reads (Kd.S_R t17o1)
 replace hb := aM hb
 have z17 := aM hb.out.size
 have HA : Below u15.heap.size u15 u17 := zB
 have HB : Below w.heap.size w u17 := zB
 go_wp2_with fail
 refine (laws_toIntS.calls ?_ _ _ _ ?_ _ ?_ ?_ ?h).mono ?_; (case h => exact zA)
 (iterate 2 (first | exact zC | exact zA))
 rintro e u18 ⟨t18v0, rfl, t18o0, hb⟩
 obtain ⟨t18A0, t18c0, rfl, t18l0, t18C0⟩ := Kd.R_reads t18o0
 replace hb := aM hb
 have z18 := aM hb.out.size
 have HA : Below u15.heap.size u15 u18 := zB
 have HB : Below w.heap.size w u18 := zB
 go_wp2_with fail
 refine (impl_SelectFacts.calls ?_ _ _ _ _ _ _ _ _ _ ?_ ?_ ?_ _ ?_ ?_ ?_ ?_ ?_ ?_ ?h).mono ?_; (case h => exact zA)
 (iterate 6 (first | exact zC | exact zA))
 rintro e u19 ⟨iv0, iv1, rfl, io0, io1, hb⟩
 obtain ⟨iA0, ic0, rfl, il0, iC0⟩ := Kd.R_reads io0
 obtain ⟨iA1, ic1, rfl, il1, iC1⟩ := Kd.R_reads (Kd.S_R io1)
 replace hb := aM hb
 have z19 := aM hb.out.size
 have HA : Below u15.heap.size u15 u19 := zB
 have HB : Below w.heap.size w u19 := zB
 obtain ⟨W19, hW19⟩ : ∃ W_, u19.alloc (.cells #[.slice iA0 g1.length ic0, .slice iA1 g2.length ic1] 31) = W_ := ⟨_, rfl⟩
 have bxi : W19.heap[u19.heap.size]? = some (.cells #[.slice iA0 g1.length ic0, .slice iA1 g2.length ic1] 31 (0, 0)) := by subst hW19; exact heap_alloc_new _ _
 have hb : Aside0 (Below u19.heap.size u19 W19) := ⟨by subst hW19; exact below_alloc (Below.refl _ _) _⟩
 have bx0 := blk_below bx0 (zB (w := u15) (w' := W19))
 clear qbx0_0 qbx0_1
 have bxs := blk_below bxs (zB (w := u15) (w' := W19))
 clear qbxs_0 qbxs_1
 have bxx := blk_below bxx (zB (w := u15) (w' := W19))
 clear qbxx_0 qbxx_1
 have bxg := blk_below bxg (zB (w := u15) (w' := W19))
 clear qbxg_0 qbxg_1
 clear HA
 have z19b := aM (show u19.heap.size < W19.heap.size by subst hW19; simp)
 have qbx0_0 := qa (w := W19) ((blk_cell bx0 0).trans rfl)
 have qbx0_1 := qa (w := W19) ((blk_cell bx0 1).trans rfl)
 have qbxs_0 := qa (w := W19) ((blk_cell bxs 0).trans rfl)
 have qbxs_1 := qa (w := W19) ((blk_cell bxs 1).trans rfl)
 have qbxx_0 := qa (w := W19) ((blk_cell bxx 0).trans rfl)
 have qbxx_1 := qa (w := W19) ((blk_cell bxx 1).trans rfl)
 have qbxg_0 := qa (w := W19) ((blk_cell bxg 0).trans rfl)
 have qbxg_1 := qa (w := W19) ((blk_cell bxg 1).trans rfl)
 have qbxi_0 := qa (w := W19) ((blk_cell bxi 0).trans rfl)
 have qbxi_1 := qa (w := W19) ((blk_cell bxi 1).trans rfl)
 have HA := Below.refl W19.heap.size W19
 have HB : Below w.heap.size w W19 := zB
 go_wp2_with fail
 refine (laws_eqDatabase.calls ?_ _ _ _ _ _ _ _ _ _ _ _ _ ?_ _ ?_ ?_ ?_ ?_ ?_ ?_ ?_ ?_ ?h).mono ?_; (case h => exact zA)
 (iterate 8 (first | exact zC | exact zA))
 rintro e u20 ⟨rfl, hb⟩
 replace hb := aM hb
 have z20 := aM hb.out.size
 have HA : Below W19.heap.size W19 u20 := zB
 have HB : Below w.heap.size w u20 := zB
 go_wp2_with fail
 have hc := laws_heldDatabase.calls k gA0 gc0 n2 gA1 gc1 n3 1 q u20 zC nL0 zC nL1 Bq
 rw [← nX0.out] at hc
 rw [← nX1.out] at hc
 refine hc.mono ?_
 clear hc
 rintro e u21 ⟨rfl, hb⟩
 replace hb := aM hb
 have z21 := aM hb.out.size
 have HA : Below W19.heap.size W19 u21 := zB
 have HB : Below w.heap.size w u21 := zB
 go_wp2
 go_ret
 exact zE zB

end Go.Proofs.Yteddnlklfjpgoaa.PFnExactSelectFacts
