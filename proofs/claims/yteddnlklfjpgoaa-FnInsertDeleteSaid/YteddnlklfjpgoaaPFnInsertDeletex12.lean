import Derived.Test.YteddnlklfjpgoaaPFnInsertDeletex0
import Derived.Test.YteddnlklfjpgoaaPFnInsertDeletex7
import Derived.Test.YteddnlklfjpgoaaPFnInsertDeletex8
import Derived.Test.YteddnlklfjpgoaaPFnInsertDeletex11
namespace Go.Proofs.Yteddnlklfjpgoaa.PFnInsertDelete
open Go.RowKit Go.Proofs.YteddnlklfjpgoaaW.PrintWords Go.Proofs.YteddnlklfjpgoaaW.PrintLast Go.Proofs.YteddnlklfjpgoaaW.PrintMore
attribute [local go_sem] max2_int min2_int max_two min_two max_three min_three max_four min_four
set_option linter.unusedVariables false
set_option linter.unusedSimpArgs false

/-! ### impl_DeleteFact: function 24 -/
def impl_DeleteFact.f (k : Nat) (l0_0 : List (S74)) (l0_1 : List (S45)) (a1_0 : Int) (l1_1 : List Int) : Option ((List (S74)) × (List (S45)) × Bool) := (impl_copyDatabase.f k l0_0 l0_1).bind fun bt318 => ((impl_ContainsFact.f l0_0 l0_1 a1_0 l1_1).bind fun t325 => (if t325 = true then ((impl_FactIndex.f l0_0 l0_1 a1_0 l1_1).bind fun t326 => ((impl_Fact_54.f bt318.2 t326 (wrap64 (t326 + 1))).bind fun t327 => (some (bt318.1, t327, true)))) else (some (bt318.1, bt318.2, false))))
set_option maxHeartbeats 8000000 in
set_option maxRecDepth 100000 in
theorem impl_DeleteFact.calls (k : Nat) (A0_0 : Option Addr) (c0_0 : Nat) (l0_0 : List (S74)) (A0_1 : Option Addr) (c0_1 : Nat) (l0_1 : List (S45)) (a1_0 : Int) (A1_1 : Option Addr) (c1_1 : Nat) (l1_1 : List Int) (r1 : List (S74)) (r2 : List (S45)) (r3 : Bool) (w : World) (hr0_0 : Kd.C k74 w A0_0 l0_0.length l0_0) (hc0_0 : l0_0.length ≤ c0_0) (hr0_1 : Kd.C k45 w A0_1 l0_1.length l0_1) (hc0_1 : l0_1.length ≤ c0_1) (hr1_1 : Kd.C (Kd.int .i64) w A1_1 l1_1.length l1_1) (hc1_1 : l1_1.length ≤ c1_1) (h : impl_DeleteFact.f k l0_0 l0_1 a1_0 l1_1 = some (r1, r2, r3)) :
  Calls Try.prog 24 #[.agg #[.slice A0_0 l0_0.length c0_0, .slice A0_1 l0_1.length c0_1], .agg #[.int .i64 a1_0, .slice A1_1 l1_1.length c1_1]] w fun e w' => ∃ v0_ v1_ : Value, e = .returned (.tuple #[.agg #[v0_, v1_], .bool r3]) ∧ Kd.R k74 74 w' w.heap.size (fun _ => True) v0_ r1 ∧ Kd.S k45 45 w' w.heap.size (fun _ => True) v1_ r2 ∧ Below w.heap.size w w' := by
 have hu31 := Try.underlying31
 have hu45 := Try.underlying45
 have HR0_0 := aM hr0_0
 have HC0_0 := aM hc0_0
 clear hr0_0 hc0_0
 have HR0_1 := aM hr0_1
 have HC0_1 := aM hc0_1
 clear hr0_1 hc0_1
 have HR1_1 := aM hr1_1
 have HC1_1 := aM hc1_1
 clear hr1_1 hc1_1
 have HB := aM (Below.refl w.heap.size w)
 have H : ((impl_copyDatabase.f k l0_0 l0_1).bind fun bt318 => ((impl_ContainsFact.f l0_0 l0_1 a1_0 l1_1).bind fun t325 => (if t325 = true then ((impl_FactIndex.f l0_0 l0_1 a1_0 l1_1).bind fun t326 => ((impl_Fact_54.f bt318.2 t326 (wrap64 (t326 + 1))).bind fun t327 => (some (bt318.1, t327, true)))) else (some (bt318.1, bt318.2, false))))) = some (r1, r2, r3) := h
 clear h
 replace H := bM H
 obtain ⟨⟨t318, t321⟩, A30, H⟩ := H
 dsimp only at H
 have A3 := aM A30
 clear A30
 replace H := bM H
 obtain ⟨t325, A40, H⟩ := H
 have A4 := aM A40
 clear A40
 by_cases c5 : t325 = true
 ·subst c5
  replace H := iT H
  replace H := bM H
  obtain ⟨t326, A60, H⟩ := H
  have A6 := aM A60
  clear A60
  replace H := bM H
  obtain ⟨t327, A70, H⟩ := H
  have A7 := aM A70
  clear A70
  simp only [Option.some.injEq, Prod.mk.injEq] at H
  obtain ⟨rfl, rfl, rfl⟩ := H
  go_enter Try.func24, Try.ntmps24
  go_wp2_with (first | ((with_reducible refine gate_dst (N := 2) rfl ?_); refine bE 2 (cs := #[.slice A0_0 l0_0.length c0_0, .slice A0_1 l0_1.length c0_1]) (t := 31) ?_; intro gb315 hg w8 hbox hb; have BK315 := aM (hbox); have GW315 := aM ((by rw [hg]; exact (below_size aB) : w.heap.size ≤ gb315)); have GE315 := aM ((by rw [hg]; exact (below_size aB) : w.heap.size ≤ gb315)); replace HB := aM (below_step aB hb); clear hb hbox hg) | ((with_reducible refine gate_dst (N := 3) rfl ?_); refine bE 3 (cs := #[.int .i64 a1_0, .slice A1_1 l1_1.length c1_1]) (t := 45) ?_; intro gb316 hg w9 hbox hb; have BK316 := aM (hbox); have GW316 := aM ((by rw [hg]; exact (below_size aG) : w.heap.size ≤ gb316)); have GE316 := aM ((by rw [hg]; exact (below_size aG) : w.heap.size ≤ gb316)); have NB315_316 := aM ((by rw [hg]; exact Nat.ne_of_lt (blk_lt (g := gb315) aK) : gb315 ≠ gb316)); have NB316_315 := aM ((by rw [hg]; exact Nat.ne_of_gt (blk_lt (g := gb315) aK) : gb316 ≠ gb315)); replace BK315 := aM (kB gb315 #[.slice A0_0 l0_0.length c0_0, .slice A0_1 l0_1.length c0_1] 31 hb); replace HB := aM (below_step aG hb); clear hb hbox hg) | ((with_reducible refine gate_dst (N := 4) rfl ?_); refine bE 4 (cs := #[.slice none 0 0, .slice none 0 0]) (t := 31) ?_; intro gb317 hg w10 hbox hb; have n0_ := aM (kB gb315 #[.slice A0_0 l0_0.length c0_0, .slice A0_1 l0_1.length c0_1] 31 hb); have n1_ := aM (kB gb316 #[.int .i64 a1_0, .slice A1_1 l1_1.length c1_1] 45 hb); have n2_ := aM (below_step aG hb); have n3_ := aM (hbox); have n4_ := aM ((by rw [hg]; exact (below_size aG) : w.heap.size ≤ gb317)); have n5_ := aM ((by rw [hg]; exact (below_size aG) : w.heap.size ≤ gb317)); have n6_ := aM ((by rw [hg]; exact Nat.ne_of_lt (blk_lt (g := gb315) aK) : gb315 ≠ gb317)); have n7_ := aM ((by rw [hg]; exact Nat.ne_of_gt (blk_lt (g := gb315) aK) : gb317 ≠ gb315)); have n8_ := aM ((by rw [hg]; exact Nat.ne_of_lt (blk_lt (g := gb316) aK) : gb316 ≠ gb317)); have n9_ := aM ((by rw [hg]; exact Nat.ne_of_gt (blk_lt (g := gb316) aK) : gb317 ≠ gb316)); clear BK315; clear BK316; clear HB; have BK315 := n0_; have BK316 := n1_; have HB := n2_; have BK317 := n3_; have GW317 := n4_; have GE317 := n5_; have NB315_317 := n6_; have NB317_315 := n7_; have NB316_317 := n8_; have NB317_316 := n9_; clear n0_ n1_ n2_ n3_ n4_ n5_ n6_ n7_ n8_ n9_; clear hb hbox hg; have hnb11 := NB315_316.out; have hnc11 := NB316_315.out; have hnb12 := NB315_317.out; have hnc12 := NB317_315.out; have hcz13_0 : w10.cell? ⟨gb315, 0, none⟩ = some (.slice A0_0 l0_0.length c0_0) := (blk_cell BK315.out 0).trans rfl; have hcz13_1 : w10.cell? ⟨gb315, 1, none⟩ = some (.slice A0_1 l0_1.length c0_1) := (blk_cell BK315.out 1).trans rfl; have hfz13_0 := blk_frozen BK315.out 0; have hfz13_1 := blk_frozen BK315.out 1) | ((with_reducible refine gate_callee (f := 38) rfl ?_); refine goesL_ (some 9) rfl rfl Try.func38 (by kernel_rfl) rfl #[.agg #[.slice A0_0 l0_0.length c0_0, .slice A0_1 l0_1.length c0_1]] rfl aA ?_; (with_reducible refine (impl_copyDatabase.calls k _ _ l0_0 _ _ l0_1 t318 t321 _ ?side1 ?side2 ?side3 ?side4 A3.out).mono ?_); (case side1 => exact aC); (case side2 => exact HC0_0.out); (case side3 => exact aC); (case side4 => exact HC0_1.out); rintro e w14 ⟨v319, v322, rfl, ho0, ho1, hb⟩; refine ⟨_, rfl, ?_⟩; have n0_ := aM (Kd.R_lower ho0 (below_size aG)); have n1_ := aM (Kd.S_lower (Kd.S_newB ho1 (g := gb316) aK) (below_size aG)); have n2_ := aM (kB gb315 #[.slice A0_0 l0_0.length c0_0, .slice A0_1 l0_1.length c0_1] 31 hb); have n3_ := aM (kB gb316 #[.int .i64 a1_0, .slice A1_1 l1_1.length c1_1] 45 hb); have n4_ := aM (kB gb317 #[.slice none 0 0, .slice none 0 0] 31 hb); have n5_ := aM (below_step aG hb); clear BK315; clear BK316; clear BK317; clear HB; have HO320 := n0_; have HO323 := n1_; have BK315 := n2_; have BK316 := n3_; have BK317 := n4_; have HB := n5_; clear n0_ n1_ n2_ n3_ n4_ n5_; (try clear hb); (try clear hb2); (try clear hk); (try clear hi); (try clear ho0); (try clear ho1)) | ((with_reducible refine gate_dst (N := 6) rfl ?_); refine bE 6 (cs := #[.slice none 0 0, .slice none 0 0]) (t := 31) ?_; intro gb324 hg w15 hbox hb; have n0_ := aM (Kd.R_below (aR HO320) hb); have n1_ := aM (Kd.S_below (aS HO323) hb); have n2_ := aM (kB gb315 #[.slice A0_0 l0_0.length c0_0, .slice A0_1 l0_1.length c0_1] 31 hb); have n3_ := aM (kB gb316 #[.int .i64 a1_0, .slice A1_1 l1_1.length c1_1] 45 hb); have n4_ := aM (kB gb317 #[.slice none 0 0, .slice none 0 0] 31 hb); have n5_ := aM (below_step aG hb); have n6_ := aM (hbox); have n7_ := aM ((by rw [hg]; exact (below_size aG) : w.heap.size ≤ gb324)); have n8_ := aM ((by rw [hg]; exact (below_size aG) : w.heap.size ≤ gb324)); have n9_ := aM ((by rw [hg]; exact Nat.ne_of_lt (blk_lt (g := gb315) aK) : gb315 ≠ gb324)); have n10_ := aM ((by rw [hg]; exact Nat.ne_of_gt (blk_lt (g := gb315) aK) : gb324 ≠ gb315)); have n11_ := aM ((by rw [hg]; exact Nat.ne_of_lt (blk_lt (g := gb316) aK) : gb316 ≠ gb324)); have n12_ := aM ((by rw [hg]; exact Nat.ne_of_gt (blk_lt (g := gb316) aK) : gb324 ≠ gb316)); have n13_ := aM ((by rw [hg]; exact Nat.ne_of_lt (blk_lt (g := gb317) aK) : gb317 ≠ gb324)); have n14_ := aM ((by rw [hg]; exact Nat.ne_of_gt (blk_lt (g := gb317) aK) : gb324 ≠ gb317)); clear HO320; clear HO323; clear BK315; clear BK316; clear BK317; clear HB; have HO320 := n0_; have HO323 := n1_; have BK315 := n2_; have BK316 := n3_; have BK317 := n4_; have HB := n5_; have BK324 := n6_; have GW324 := n7_; have GE324 := n8_; have NB315_324 := n9_; have NB324_315 := n10_; have NB316_324 := n11_; have NB324_316 := n12_; have NB317_324 := n13_; have NB324_317 := n14_; clear n0_ n1_ n2_ n3_ n4_ n5_ n6_ n7_ n8_ n9_ n10_ n11_ n12_ n13_ n14_; clear hb hbox hg; obtain ⟨Ao16, co16, eo16⟩ := Kd.R_slice HO320.out; subst eo16; have hnb17 := NB324_315.out; have hnc17 := NB315_324.out; have hnb18 := NB324_316.out; have hnc18 := NB316_324.out; have hnb19 := NB324_317.out; have hnc19 := NB317_324.out; have hcz20_0 : w15.cell? ⟨gb324, 0, none⟩ = some (.slice none 0 0) := (blk_cell BK324.out 0).trans rfl; have hcz20_1 : w15.cell? ⟨gb324, 1, none⟩ = some (.slice none 0 0) := (blk_cell BK324.out 1).trans rfl; have hfz20_0 := blk_frozen BK324.out 0; have hfz20_1 := blk_frozen BK324.out 1; obtain ⟨Ao21, co21, eo21⟩ := Kd.S_slice HO323.out; subst eo21; have hcz22_0 : w15.cell? ⟨gb315, 0, none⟩ = some (.slice A0_0 l0_0.length c0_0) := (blk_cell BK315.out 0).trans rfl; have hcz22_1 : w15.cell? ⟨gb315, 1, none⟩ = some (.slice A0_1 l0_1.length c0_1) := (blk_cell BK315.out 1).trans rfl; have hfz22_0 := blk_frozen BK315.out 0; have hfz22_1 := blk_frozen BK315.out 1; have hnb23 := NB316_317.out; have hnc23 := NB317_316.out; have hcz24_0 : w15.cell? ⟨gb316, 0, none⟩ = some (.int .i64 a1_0) := (blk_cell BK316.out 0).trans rfl; have hcz24_1 : w15.cell? ⟨gb316, 1, none⟩ = some (.slice A1_1 l1_1.length c1_1) := (blk_cell BK316.out 1).trans rfl; have hfz24_0 := blk_frozen BK316.out 0; have hfz24_1 := blk_frozen BK316.out 1) | ((with_reducible refine gate_callee (f := 30) rfl ?_); refine goesL_ (some 12) rfl rfl Try.func30 (by kernel_rfl) rfl #[.agg #[.slice A0_0 l0_0.length c0_0, .slice A0_1 l0_1.length c0_1], .agg #[.int .i64 a1_0, .slice A1_1 l1_1.length c1_1]] rfl aA ?_; (with_reducible refine (impl_ContainsFact.calls _ _ l0_0 _ _ l0_1 a1_0 _ _ l1_1 true _ ?side1 ?side2 ?side3 ?side4 ?side5 ?side6 A4.out).mono ?_); (case side1 => exact Kd.C_below HR0_0.out aG); (case side2 => exact HC0_0.out); (case side3 => exact Kd.C_below HR0_1.out aG); (case side4 => exact HC0_1.out); (case side5 => exact Kd.C_below HR1_1.out aG); (case side6 => exact HC1_1.out); rintro e w25 ⟨rfl, hb⟩; refine ⟨_, rfl, ?_⟩; replace HO320 := aM (Kd.R_below (by (with_reducible repeat apply pR); exact (rF1 HO320.out BK324.out (.slice Ao16 t318.length co16) (.slice Ao21 t321.length co21))) hb); replace HO323 := aM (Kd.S_below (by (with_reducible repeat apply pS); exact (Kd.S_mono (Kd.S_far (p := ⟨gb324, 1, none⟩) (Kd.S_far (p := ⟨gb324, 0, none⟩) (Kd.S_types HO323.out BK324.out (by decide)) (fun _ hk => hk.2) (.slice Ao16 t318.length co16)) (fun _ hk => hk.2) (.slice Ao21 t321.length co21)) (fun _ h_ => h_.1))) hb); replace BK315 := aM (blk_below (g := gb315) (bF2 NB315_324.out BK315.out) hb); replace BK316 := aM (blk_below (g := gb316) (bF2 NB316_324.out BK316.out) hb); replace BK317 := aM (blk_below (g := gb317) (bF2 NB317_324.out BK317.out) hb); replace BK324 := aM (blk_below (g := gb324) (bP2 BK324.out) hb); replace HB := aM (below_step aG hb); (try clear hb); (try clear hb2); (try clear hk); (try clear hi); have hcz26_0 : w25.cell? ⟨gb315, 0, none⟩ = some (.slice A0_0 l0_0.length c0_0) := (blk_cell BK315.out 0).trans rfl; have hcz26_1 : w25.cell? ⟨gb315, 1, none⟩ = some (.slice A0_1 l0_1.length c0_1) := (blk_cell BK315.out 1).trans rfl; have hfz26_0 := blk_frozen BK315.out 0; have hfz26_1 := blk_frozen BK315.out 1; have hcz27_0 : w25.cell? ⟨gb316, 0, none⟩ = some (.int .i64 a1_0) := (blk_cell BK316.out 0).trans rfl; have hcz27_1 : w25.cell? ⟨gb316, 1, none⟩ = some (.slice A1_1 l1_1.length c1_1) := (blk_cell BK316.out 1).trans rfl; have hfz27_0 := blk_frozen BK316.out 0; have hfz27_1 := blk_frozen BK316.out 1) | ((with_reducible refine gate_callee (f := 31) rfl ?_); refine goesL_ (some 17) rfl rfl Try.func31 (by kernel_rfl) rfl #[.agg #[.slice A0_0 l0_0.length c0_0, .slice A0_1 l0_1.length c0_1], .agg #[.int .i64 a1_0, .slice A1_1 l1_1.length c1_1]] rfl aA ?_; (with_reducible refine (impl_FactIndex.calls _ _ l0_0 _ _ l0_1 a1_0 _ _ l1_1 t326 _ ?side1 ?side2 ?side3 ?side4 ?side5 ?side6 A6.out).mono ?_); (case side1 => exact aC); (case side2 => exact HC0_0.out); (case side3 => exact aC); (case side4 => exact HC0_1.out); (case side5 => exact aC); (case side6 => exact HC1_1.out); rintro e w28 ⟨rfl, hb⟩; refine ⟨_, rfl, ?_⟩; have n0_ := aM (Kd.R_below (aR HO320) hb); have n1_ := aM (Kd.S_below (aS HO323) hb); have n2_ := aM (kB gb315 #[.slice A0_0 l0_0.length c0_0, .slice A0_1 l0_1.length c0_1] 31 hb); have n3_ := aM (kB gb316 #[.int .i64 a1_0, .slice A1_1 l1_1.length c1_1] 45 hb); have n4_ := aM (kB gb317 #[.slice none 0 0, .slice none 0 0] 31 hb); have n5_ := aM (kB gb324 #[.slice Ao16 t318.length co16, .slice Ao21 t321.length co21] 31 hb); have n6_ := aM (below_step aG hb); clear HO320; clear HO323; clear BK315; clear BK316; clear BK317; clear BK324; clear HB; have HO320 := n0_; have HO323 := n1_; have BK315 := n2_; have BK316 := n3_; have BK317 := n4_; have BK324 := n5_; have HB := n6_; clear n0_ n1_ n2_ n3_ n4_ n5_ n6_; (try clear hb); (try clear hb2); (try clear hk); (try clear hi); have hcz29_0 : w28.cell? ⟨gb324, 0, none⟩ = some (.slice Ao16 t318.length co16) := (blk_cell BK324.out 0).trans rfl; have hcz29_1 : w28.cell? ⟨gb324, 1, none⟩ = some (.slice Ao21 t321.length co21) := (blk_cell BK324.out 1).trans rfl; have hfz29_0 := blk_frozen BK324.out 0; have hfz29_1 := blk_frozen BK324.out 1) | ((with_reducible refine gate_callee (f := 54) rfl ?_); refine goesL_ (some 23) rfl rfl Try.func54 (by kernel_rfl) rfl #[.slice Ao21 t321.length co21, .int .i64 t326, .int .i64 (wrap64 (t326 + 1))] rfl aA ?_; (with_reducible refine (impl_Fact_54.calls (fun k_ => True ∧ k_ ≠ gb316) _ t321 t326 (wrap64 (t326 + 1)) t327 w _ ?side1 ?side2 A7.out).mono ?_); (case side1 => exact aG); (case side2 => exact HO323.out); rintro e w30 ⟨v328, rfl, ho0, hg, hb⟩; refine ⟨_, rfl, ?_⟩; have n0_ := aM (Kd.R_over' (aR HO320) (Kd.S_typed HO323.out) (by decide) hg); have n1_ := aM trivial; have n2_ := aM ho0; have n3_ := aM (blk_grown (g := gb315) aK hg (Kd.S_ne HO323.out BK315.out (by decide))); have n4_ := aM (blk_grown (g := gb316) aK hg (Kd.S_away HO323.out (fun _ hk => by first | exact hk.2 | exact hk.1.2 | exact hk.2.1 | exact hk.2.2))); have n5_ := aM (blk_grown (g := gb317) aK hg (Kd.S_ne HO323.out BK317.out (by decide))); have n6_ := aM (blk_grown (g := gb324) aK hg (Kd.S_ne HO323.out BK324.out (by decide))); have n7_ := aM hb; clear HO320; clear HO323; clear BK315; clear BK316; clear BK317; clear BK324; clear HB; have HO320 := n0_; have HO323 := n1_; have HO329 := n2_; have BK315 := n3_; have BK316 := n4_; have BK317 := n5_; have BK324 := n6_; have HB := n7_; clear n0_ n1_ n2_ n3_ n4_ n5_ n6_ n7_; (try clear hb); (try clear hg); (try clear hk); (try clear hi); (try clear ho0); obtain ⟨Ao31, co31, eo31⟩ := Kd.S_slice HO329.out; subst eo31; have hcz32_0 : w30.cell? ⟨gb324, 0, none⟩ = some (.slice Ao16 t318.length co16) := (blk_cell BK324.out 0).trans rfl; have hcz32_1 : w30.cell? ⟨gb324, 1, none⟩ = some (.slice Ao21 t321.length co21) := (blk_cell BK324.out 1).trans rfl; have hfz32_0 := blk_frozen BK324.out 0; have hfz32_1 := blk_frozen BK324.out 1; have hcz33_0 : w30.cell? ⟨gb317, 0, none⟩ = some (.slice none 0 0) := (blk_cell BK317.out 0).trans rfl; have hcz33_1 : w30.cell? ⟨gb317, 1, none⟩ = some (.slice none 0 0) := (blk_cell BK317.out 1).trans rfl; have hfz33_0 := blk_frozen BK317.out 0; have hfz33_1 := blk_frozen BK317.out 1))
  refine bodyPost_ret (results_ct rfl _ _ gb317 31 #[.slice Ao16 t318.length co16, .slice Ao31 t327.length co31] (0, 0) _ rfl (by (with_reducible repeat refine pB ?_); refine blk_put (cs := #[.slice Ao16 t318.length co16, .slice none 0 0]) ?_ 1 _ rfl; (with_reducible repeat refine pB ?_); refine blk_put (cs := #[.slice none 0 0, .slice none 0 0]) ?_ 0 _ rfl; (with_reducible repeat refine pB ?_); refine blk_far ?_ NB317_324.out _; (with_reducible repeat refine pB ?_); exact BK317.out) Try.underlying31 rfl (by kernel_rfl)) rfl ?_
  exact ⟨_, _, aE, by (with_reducible repeat apply pR); exact Kd.R_mono (Kd.R_far (p := ⟨gb317, 1, none⟩) (Kd.R_far (p := ⟨gb317, 0, none⟩) (Kd.R_far (p := ⟨gb324, 1, none⟩) (Kd.R_types (Kd.R_types HO320.out BK324.out (by decide)) BK317.out (by decide)) (fun _ hk => hk.1.2) (.slice Ao31 t327.length co31)) (fun _ hk => hk.2) (.slice Ao16 t318.length co16)) (fun _ hk => hk.2) (.slice Ao31 t327.length co31)) (fun _ hk => trivial), by (with_reducible repeat apply pS); exact Kd.S_mono (Kd.S_far (p := ⟨gb317, 1, none⟩) (Kd.S_far (p := ⟨gb317, 0, none⟩) (Kd.S_far (p := ⟨gb324, 1, none⟩) (Kd.S_types (Kd.S_types HO329.out BK324.out (by decide)) BK317.out (by decide)) (fun _ hk => hk.1.2) (.slice Ao31 t327.length co31)) (fun _ hk => hk.2) (.slice Ao16 t318.length co16)) (fun _ hk => hk.2) (.slice Ao31 t327.length co31)) (fun _ hk => trivial), aG⟩
 ·replace c5 := Bool.eq_false_iff.mpr c5
  subst c5
  have H1 : (some (t318, t321, false)) = some (r1, r2, r3) := by rw [if_neg (show ¬ (false = true) by decide)] at H; exact H
  clear H
  have H := H1
  clear H1
  simp only [Option.some.injEq, Prod.mk.injEq] at H
  obtain ⟨rfl, rfl, rfl⟩ := H
  go_enter Try.func24, Try.ntmps24
  go_wp2_with (first | ((with_reducible refine gate_dst (N := 2) rfl ?_); refine bE 2 (cs := #[.slice A0_0 l0_0.length c0_0, .slice A0_1 l0_1.length c0_1]) (t := 31) ?_; intro gb315 hg w34 hbox hb; have BK315 := aM (hbox); have GW315 := aM ((by rw [hg]; exact (below_size aB) : w.heap.size ≤ gb315)); have GE315 := aM ((by rw [hg]; exact (below_size aB) : w.heap.size ≤ gb315)); replace HB := aM (below_step aB hb); clear hb hbox hg) | ((with_reducible refine gate_dst (N := 3) rfl ?_); refine bE 3 (cs := #[.int .i64 a1_0, .slice A1_1 l1_1.length c1_1]) (t := 45) ?_; intro gb316 hg w35 hbox hb; have BK316 := aM (hbox); have GW316 := aM ((by rw [hg]; exact (below_size aG) : w.heap.size ≤ gb316)); have GE316 := aM ((by rw [hg]; exact (below_size aG) : w.heap.size ≤ gb316)); have NB315_316 := aM ((by rw [hg]; exact Nat.ne_of_lt (blk_lt (g := gb315) aK) : gb315 ≠ gb316)); have NB316_315 := aM ((by rw [hg]; exact Nat.ne_of_gt (blk_lt (g := gb315) aK) : gb316 ≠ gb315)); replace BK315 := aM (kB gb315 #[.slice A0_0 l0_0.length c0_0, .slice A0_1 l0_1.length c0_1] 31 hb); replace HB := aM (below_step aG hb); clear hb hbox hg) | ((with_reducible refine gate_dst (N := 4) rfl ?_); refine bE 4 (cs := #[.slice none 0 0, .slice none 0 0]) (t := 31) ?_; intro gb317 hg w36 hbox hb; have n0_ := aM (kB gb315 #[.slice A0_0 l0_0.length c0_0, .slice A0_1 l0_1.length c0_1] 31 hb); have n1_ := aM (kB gb316 #[.int .i64 a1_0, .slice A1_1 l1_1.length c1_1] 45 hb); have n2_ := aM (below_step aG hb); have n3_ := aM (hbox); have n4_ := aM ((by rw [hg]; exact (below_size aG) : w.heap.size ≤ gb317)); have n5_ := aM ((by rw [hg]; exact (below_size aG) : w.heap.size ≤ gb317)); have n6_ := aM ((by rw [hg]; exact Nat.ne_of_lt (blk_lt (g := gb315) aK) : gb315 ≠ gb317)); have n7_ := aM ((by rw [hg]; exact Nat.ne_of_gt (blk_lt (g := gb315) aK) : gb317 ≠ gb315)); have n8_ := aM ((by rw [hg]; exact Nat.ne_of_lt (blk_lt (g := gb316) aK) : gb316 ≠ gb317)); have n9_ := aM ((by rw [hg]; exact Nat.ne_of_gt (blk_lt (g := gb316) aK) : gb317 ≠ gb316)); clear BK315; clear BK316; clear HB; have BK315 := n0_; have BK316 := n1_; have HB := n2_; have BK317 := n3_; have GW317 := n4_; have GE317 := n5_; have NB315_317 := n6_; have NB317_315 := n7_; have NB316_317 := n8_; have NB317_316 := n9_; clear n0_ n1_ n2_ n3_ n4_ n5_ n6_ n7_ n8_ n9_; clear hb hbox hg; have hnb37 := NB315_316.out; have hnc37 := NB316_315.out; have hnb38 := NB315_317.out; have hnc38 := NB317_315.out; have hcz39_0 : w36.cell? ⟨gb315, 0, none⟩ = some (.slice A0_0 l0_0.length c0_0) := (blk_cell BK315.out 0).trans rfl; have hcz39_1 : w36.cell? ⟨gb315, 1, none⟩ = some (.slice A0_1 l0_1.length c0_1) := (blk_cell BK315.out 1).trans rfl; have hfz39_0 := blk_frozen BK315.out 0; have hfz39_1 := blk_frozen BK315.out 1) | ((with_reducible refine gate_callee (f := 38) rfl ?_); refine goesL_ (some 9) rfl rfl Try.func38 (by kernel_rfl) rfl #[.agg #[.slice A0_0 l0_0.length c0_0, .slice A0_1 l0_1.length c0_1]] rfl aA ?_; (with_reducible refine (impl_copyDatabase.calls k _ _ l0_0 _ _ l0_1 t318 t321 _ ?side1 ?side2 ?side3 ?side4 A3.out).mono ?_); (case side1 => exact aC); (case side2 => exact HC0_0.out); (case side3 => exact aC); (case side4 => exact HC0_1.out); rintro e w40 ⟨v319, v322, rfl, ho0, ho1, hb⟩; refine ⟨_, rfl, ?_⟩; have n0_ := aM (Kd.R_lower ho0 (below_size aG)); have n1_ := aM (Kd.S_lower (Kd.S_newB ho1 (g := gb316) aK) (below_size aG)); have n2_ := aM (kB gb315 #[.slice A0_0 l0_0.length c0_0, .slice A0_1 l0_1.length c0_1] 31 hb); have n3_ := aM (kB gb316 #[.int .i64 a1_0, .slice A1_1 l1_1.length c1_1] 45 hb); have n4_ := aM (kB gb317 #[.slice none 0 0, .slice none 0 0] 31 hb); have n5_ := aM (below_step aG hb); clear BK315; clear BK316; clear BK317; clear HB; have HO320 := n0_; have HO323 := n1_; have BK315 := n2_; have BK316 := n3_; have BK317 := n4_; have HB := n5_; clear n0_ n1_ n2_ n3_ n4_ n5_; (try clear hb); (try clear hb2); (try clear hk); (try clear hi); (try clear ho0); (try clear ho1)) | ((with_reducible refine gate_dst (N := 6) rfl ?_); refine bE 6 (cs := #[.slice none 0 0, .slice none 0 0]) (t := 31) ?_; intro gb324 hg w41 hbox hb; have n0_ := aM (Kd.R_below (aR HO320) hb); have n1_ := aM (Kd.S_below (aS HO323) hb); have n2_ := aM (kB gb315 #[.slice A0_0 l0_0.length c0_0, .slice A0_1 l0_1.length c0_1] 31 hb); have n3_ := aM (kB gb316 #[.int .i64 a1_0, .slice A1_1 l1_1.length c1_1] 45 hb); have n4_ := aM (kB gb317 #[.slice none 0 0, .slice none 0 0] 31 hb); have n5_ := aM (below_step aG hb); have n6_ := aM (hbox); have n7_ := aM ((by rw [hg]; exact (below_size aG) : w.heap.size ≤ gb324)); have n8_ := aM ((by rw [hg]; exact (below_size aG) : w.heap.size ≤ gb324)); have n9_ := aM ((by rw [hg]; exact Nat.ne_of_lt (blk_lt (g := gb315) aK) : gb315 ≠ gb324)); have n10_ := aM ((by rw [hg]; exact Nat.ne_of_gt (blk_lt (g := gb315) aK) : gb324 ≠ gb315)); have n11_ := aM ((by rw [hg]; exact Nat.ne_of_lt (blk_lt (g := gb316) aK) : gb316 ≠ gb324)); have n12_ := aM ((by rw [hg]; exact Nat.ne_of_gt (blk_lt (g := gb316) aK) : gb324 ≠ gb316)); have n13_ := aM ((by rw [hg]; exact Nat.ne_of_lt (blk_lt (g := gb317) aK) : gb317 ≠ gb324)); have n14_ := aM ((by rw [hg]; exact Nat.ne_of_gt (blk_lt (g := gb317) aK) : gb324 ≠ gb317)); clear HO320; clear HO323; clear BK315; clear BK316; clear BK317; clear HB; have HO320 := n0_; have HO323 := n1_; have BK315 := n2_; have BK316 := n3_; have BK317 := n4_; have HB := n5_; have BK324 := n6_; have GW324 := n7_; have GE324 := n8_; have NB315_324 := n9_; have NB324_315 := n10_; have NB316_324 := n11_; have NB324_316 := n12_; have NB317_324 := n13_; have NB324_317 := n14_; clear n0_ n1_ n2_ n3_ n4_ n5_ n6_ n7_ n8_ n9_ n10_ n11_ n12_ n13_ n14_; clear hb hbox hg; obtain ⟨Ao42, co42, eo42⟩ := Kd.R_slice HO320.out; subst eo42; have hnb43 := NB324_315.out; have hnc43 := NB315_324.out; have hnb44 := NB324_316.out; have hnc44 := NB316_324.out; have hnb45 := NB324_317.out; have hnc45 := NB317_324.out; have hcz46_0 : w41.cell? ⟨gb324, 0, none⟩ = some (.slice none 0 0) := (blk_cell BK324.out 0).trans rfl; have hcz46_1 : w41.cell? ⟨gb324, 1, none⟩ = some (.slice none 0 0) := (blk_cell BK324.out 1).trans rfl; have hfz46_0 := blk_frozen BK324.out 0; have hfz46_1 := blk_frozen BK324.out 1; obtain ⟨Ao47, co47, eo47⟩ := Kd.S_slice HO323.out; subst eo47; have hcz48_0 : w41.cell? ⟨gb315, 0, none⟩ = some (.slice A0_0 l0_0.length c0_0) := (blk_cell BK315.out 0).trans rfl; have hcz48_1 : w41.cell? ⟨gb315, 1, none⟩ = some (.slice A0_1 l0_1.length c0_1) := (blk_cell BK315.out 1).trans rfl; have hfz48_0 := blk_frozen BK315.out 0; have hfz48_1 := blk_frozen BK315.out 1; have hnb49 := NB316_317.out; have hnc49 := NB317_316.out; have hcz50_0 : w41.cell? ⟨gb316, 0, none⟩ = some (.int .i64 a1_0) := (blk_cell BK316.out 0).trans rfl; have hcz50_1 : w41.cell? ⟨gb316, 1, none⟩ = some (.slice A1_1 l1_1.length c1_1) := (blk_cell BK316.out 1).trans rfl; have hfz50_0 := blk_frozen BK316.out 0; have hfz50_1 := blk_frozen BK316.out 1) | ((with_reducible refine gate_callee (f := 30) rfl ?_); refine goesL_ (some 12) rfl rfl Try.func30 (by kernel_rfl) rfl #[.agg #[.slice A0_0 l0_0.length c0_0, .slice A0_1 l0_1.length c0_1], .agg #[.int .i64 a1_0, .slice A1_1 l1_1.length c1_1]] rfl aA ?_; (with_reducible refine (impl_ContainsFact.calls _ _ l0_0 _ _ l0_1 a1_0 _ _ l1_1 false _ ?side1 ?side2 ?side3 ?side4 ?side5 ?side6 A4.out).mono ?_); (case side1 => exact Kd.C_below HR0_0.out aG); (case side2 => exact HC0_0.out); (case side3 => exact Kd.C_below HR0_1.out aG); (case side4 => exact HC0_1.out); (case side5 => exact Kd.C_below HR1_1.out aG); (case side6 => exact HC1_1.out); rintro e w51 ⟨rfl, hb⟩; refine ⟨_, rfl, ?_⟩; replace HO320 := aM (Kd.R_below (by (with_reducible repeat apply pR); exact (rF1 HO320.out BK324.out (.slice Ao42 t318.length co42) (.slice Ao47 t321.length co47))) hb); replace HO323 := aM (Kd.S_below (by (with_reducible repeat apply pS); exact (Kd.S_mono (Kd.S_far (p := ⟨gb324, 1, none⟩) (Kd.S_far (p := ⟨gb324, 0, none⟩) (Kd.S_types HO323.out BK324.out (by decide)) (fun _ hk => hk.2) (.slice Ao42 t318.length co42)) (fun _ hk => hk.2) (.slice Ao47 t321.length co47)) (fun _ h_ => h_.1))) hb); replace BK315 := aM (blk_below (g := gb315) (bF2 NB315_324.out BK315.out) hb); replace BK316 := aM (blk_below (g := gb316) (bF2 NB316_324.out BK316.out) hb); replace BK317 := aM (blk_below (g := gb317) (bF2 NB317_324.out BK317.out) hb); replace BK324 := aM (blk_below (g := gb324) (bP2 BK324.out) hb); replace HB := aM (below_step aG hb); (try clear hb); (try clear hb2); (try clear hk); (try clear hi); have hcz52_0 : w51.cell? ⟨gb324, 0, none⟩ = some (.slice Ao42 t318.length co42) := (blk_cell BK324.out 0).trans rfl; have hcz52_1 : w51.cell? ⟨gb324, 1, none⟩ = some (.slice Ao47 t321.length co47) := (blk_cell BK324.out 1).trans rfl; have hfz52_0 := blk_frozen BK324.out 0; have hfz52_1 := blk_frozen BK324.out 1; have hcz53_0 : w51.cell? ⟨gb317, 0, none⟩ = some (.slice none 0 0) := (blk_cell BK317.out 0).trans rfl; have hcz53_1 : w51.cell? ⟨gb317, 1, none⟩ = some (.slice none 0 0) := (blk_cell BK317.out 1).trans rfl; have hfz53_0 := blk_frozen BK317.out 0; have hfz53_1 := blk_frozen BK317.out 1))
  refine bodyPost_ret (results_ct rfl _ _ gb317 31 #[.slice Ao42 t318.length co42, .slice Ao47 t321.length co47] (0, 0) _ rfl (bP2 BK317.out) Try.underlying31 rfl (by kernel_rfl)) rfl ?_
  exact ⟨_, _, aE, by (with_reducible repeat apply pR); exact Kd.R_mono (Kd.R_far (p := ⟨gb317, 1, none⟩) (Kd.R_far (p := ⟨gb317, 0, none⟩) (Kd.R_types HO320.out BK317.out (by decide)) (fun _ hk => hk.2) (.slice Ao42 t318.length co42)) (fun _ hk => hk.2) (.slice Ao47 t321.length co47)) (fun _ hk => trivial), by (with_reducible repeat apply pS); exact Kd.S_mono (Kd.S_far (p := ⟨gb317, 1, none⟩) (Kd.S_far (p := ⟨gb317, 0, none⟩) (Kd.S_types HO323.out BK317.out (by decide)) (fun _ hk => hk.2) (.slice Ao42 t318.length co42)) (fun _ hk => hk.2) (.slice Ao47 t321.length co47)) (fun _ hk => trivial), aG⟩


/-! ### laws_big: function 25 -/
def laws_big.f (l0 : List Int) : Option (Bool) := some (decide ((l0.length : Int) > 1048576))
set_option maxHeartbeats 8000000 in
set_option maxRecDepth 100000 in
theorem laws_big.calls (A0 : Option Addr) (c0 : Nat) (l0 : List Int) (r : Bool) (w : World) (hr0 : Kd.C (Kd.int .u8) w A0 l0.length l0) (hc0 : l0.length ≤ c0) (h : laws_big.f l0 = some r) :
  Calls Try.prog 25 #[.slice A0 l0.length c0] w fun e w' => e = .returned (.bool r) ∧ Drawn0 w w' := by
 unfold laws_big.f at h
 obtain rfl := si h
 rotate_left
 all_goals (go_enter Try.func25, Try.ntmps25; go_wp2; go_ret; exact zE zD)

/-- A state of type 95 at block g of W; what its slices lead to came in by w0. -/
def IsS95 (w0 W : World) (g : Nat) (f0 : List Int) (f1 : Int) (f2 : Int) : Prop := ∃ A0 c0, W.heap[g]? = some (.cells #[.slice A0 f0.length c0, .int .i64 f1, .int .i64 f2] 95 (0, 0)) ∧ w0.heap.size ≤ g ∧ Kd.C (Kd.int .u8) w0 A0 f0.length f0
theorem IsS95.grown {w0 W : World} {g : Nat} {f0 : List Int} {f1 : Int} {f2 : Int} {W1 : World} {row : Option Nat} (h : IsS95 w0 W g f0 f1 f2) (hw : W.grownBy W1 row) (hne : some g ≠ row) : IsS95 w0 W1 g f0 f1 f2 := by
 obtain ⟨A0, c0, hb, hg, hr0⟩ := h
 exact ⟨A0, c0, blk_grown hb hw hne, hg, hr0⟩
theorem IsS95.own_neN {w0 W : World} {g : Nat} {f0 : List Int} {f1 : Int} {f2 : Int} {α : Type} {d : Kd α} {e : Nat} {base : Nat} {ok : Nat → Prop} {v : Value} {xs : List α} (h : IsS95 w0 W g f0 f1 f2) (ho : Kd.N d e W base ok v xs) (ht : e ≠ 95) : some g ≠ v.ownBlock := by
 obtain ⟨A0, c0, hb, hg, hr0⟩ := h
 exact Kd.N_ne ho hb ht
theorem IsS95.fresh {w0 W : World} {g : Nat} {f0 : List Int} {f1 : Int} {f2 : Int} (h : IsS95 w0 W g f0 f1 f2) : ∀ k, W.heap.size ≤ k → k ≠ g := by
 obtain ⟨A0, c0, hb, hg, hr0⟩ := h
 exact Kd.freshB hb
theorem IsS95.kept {w0 W : World} {g : Nat} {f0 : List Int} {f1 : Int} {f2 : Int} {W1 : World} {S : Nat → Prop} (h : IsS95 w0 W g f0 f1 f2) (hk : Kept W W1 S) (hne : ¬ S g) : IsS95 w0 W1 g f0 f1 f2 := by
 obtain ⟨A0, c0, hb, hg, hr0⟩ := h
 exact ⟨A0, c0, blk_kept hb hk hne, hg, hr0⟩
theorem IsS95.below {w0 W : World} {g : Nat} {f0 : List Int} {f1 : Int} {f2 : Int} {W1 : World} (h : IsS95 w0 W g f0 f1 f2) (hw : Below W.heap.size W W1) : IsS95 w0 W1 g f0 f1 f2 := h.grown (grown_of_below hw none) (by simp)
theorem IsS95.alloc {w0 W : World} {g : Nat} {f0 : List Int} {f1 : Int} {f2 : Int} (h : IsS95 w0 W g f0 f1 f2) (o : Obj) : IsS95 w0 (W.alloc o) g f0 f1 f2 := h.below (below_alloc (Below.refl _ _) o)
theorem IsS95.drewN {w0 W : World} {g : Nat} {f0 : List Int} {f1 : Int} {f2 : Int} (h : IsS95 w0 W g f0 f1 f2) (m : Nat) : IsS95 w0 (W.drewN m) g f0 f1 f2 := h
theorem IsS95.drew {w0 W : World} {g : Nat} {f0 : List Int} {f1 : Int} {f2 : Int} (h : IsS95 w0 W g f0 f1 f2) : IsS95 w0 W.drew g f0 f1 f2 := h
theorem IsS95.at_ {w0 W : World} {g : Nat} {f0 : List Int} {f1 : Int} {f2 : Int} {w' : World} {m : Nat} (hq : W.drewN m = w') (h : IsS95 w0 W g f0 f1 f2) : IsS95 w0 w' g f0 f1 f2 := by subst hq; exact IsS95.drewN h m
theorem IsS95.apart {w0 W : World} {g : Nat} {f0 : List Int} {f1 : Int} {f2 : Int} {α : Type} {d : Kd α} {e : Nat} {base : Nat} {ok : Nat → Prop} {v : Value} {xs : List α} (h : IsS95 w0 W g f0 f1 f2) (ho : d.R e W base ok v xs) (ht : ∀ q, q ∈ e :: d.E → q ≠ 95) : d.R e W base (fun k => ok k ∧ k ≠ g) v xs := by
 obtain ⟨A0, c0, hb, hg, hr0⟩ := h
 exact Kd.R_types ho hb ht
theorem IsS95.own_ne {w0 W : World} {g : Nat} {f0 : List Int} {f1 : Int} {f2 : Int} {α : Type} {d : Kd α} {e : Nat} {base : Nat} {ok : Nat → Prop} {v : Value} {xs : List α} (h : IsS95 w0 W g f0 f1 f2) (ho : d.R e W base ok v xs) (ht : e ≠ 95) : some g ≠ v.ownBlock := by
 obtain ⟨A0, c0, hb, hg, hr0⟩ := h
 exact Kd.R_ne ho hb ht
theorem IsS95.apartQ {w0 W : World} {g : Nat} {f0 : List Int} {f1 : Int} {f2 : Int} {α : Type} {d : Kd α} {e : Nat} {base : Nat} {ok : Nat → Prop} {v : Value} {xs : List α} (h : IsS95 w0 W g f0 f1 f2) (ho : d.Q e W base ok v xs) (ht : ∀ q, q ∈ e :: d.E → q ≠ 95) : d.Q e W base (fun k => ok k ∧ k ≠ g) v xs := by
 obtain ⟨A0, c0, hb, hg, hr0⟩ := h
 exact Kd.Q_types ho hb ht
theorem IsS95.own_neQ {w0 W : World} {g : Nat} {f0 : List Int} {f1 : Int} {f2 : Int} {α : Type} {d : Kd α} {e : Nat} {base : Nat} {ok : Nat → Prop} {v : Value} {xs : List α} (h : IsS95 w0 W g f0 f1 f2) (ho : d.Q e W base ok v xs) (ht : e ≠ 95) : some g ≠ v.ownBlock := by
 obtain ⟨A0, c0, hb, hg, hr0⟩ := h
 exact Kd.Q_ne ho hb ht
theorem IsS95.apartS {w0 W : World} {g : Nat} {f0 : List Int} {f1 : Int} {f2 : Int} {α : Type} {d : Kd α} {e : Nat} {base : Nat} {ok : Nat → Prop} {v : Value} {xs : List α} (h : IsS95 w0 W g f0 f1 f2) (ho : d.S e W base ok v xs) (ht : ∀ q, q ∈ e :: d.E → q ≠ 95) : d.S e W base (fun k => ok k ∧ k ≠ g) v xs := by
 obtain ⟨A0, c0, hb, hg, hr0⟩ := h
 exact Kd.S_types ho hb ht
theorem IsS95.own_neS {w0 W : World} {g : Nat} {f0 : List Int} {f1 : Int} {f2 : Int} {α : Type} {d : Kd α} {e : Nat} {base : Nat} {ok : Nat → Prop} {v : Value} {xs : List α} (h : IsS95 w0 W g f0 f1 f2) (ho : d.S e W base ok v xs) (ht : e ≠ 95) : some g ≠ v.ownBlock := by
 obtain ⟨A0, c0, hb, hg, hr0⟩ := h
 exact Kd.S_ne ho hb ht
theorem IsS95.lt {w0 W : World} {g : Nat} {f0 : List Int} {f1 : Int} {f2 : Int} (h : IsS95 w0 W g f0 f1 f2) : g < W.heap.size := by
 obtain ⟨A0, c0, hb, hg, hr0⟩ := h
 exact blk_lt hb
theorem IsS95.ge {w0 W : World} {g : Nat} {f0 : List Int} {f1 : Int} {f2 : Int} (h : IsS95 w0 W g f0 f1 f2) : w0.heap.size ≤ g := by
 obtain ⟨A0, c0, hb, hg, hr0⟩ := h
 exact hg
theorem IsS95.ne_blk {w0 W : World} {g : Nat} {f0 : List Int} {f1 : Int} {f2 : Int} {a : Nat} {cs : Array Value} {t : TypeId} {fr : Nat × Nat} (h : IsS95 w0 W g f0 f1 f2) (hb2 : W.heap[a]? = some (.cells cs t fr)) (ht : t ≠ 95) : g ≠ a := by
 obtain ⟨A0, c0, hb, hg, hr0⟩ := h
 rintro rfl
 rw [hb] at hb2
 injection hb2 with hb2
 injection hb2 with _ ht2
 exact ht ht2.symm
theorem IsS95.far {w0 W : World} {g : Nat} {f0 : List Int} {f1 : Int} {f2 : Int} {p : Addr} (h : IsS95 w0 W g f0 f1 f2) (hne : g ≠ p.block) (u : Value) : IsS95 w0 (W.setCell p u) g f0 f1 f2 := by
 obtain ⟨A0, c0, hb, hg, hr0⟩ := h
 exact ⟨A0, c0, blk_far hb hne u, hg, hr0⟩
theorem cellS95_0 {W : World} {g : Nat} {A0 : Option Addr} {c0 : Nat} {f0 : List Int} {f1 : Int} {f2 : Int} (h : W.heap[g]? = some (.cells #[.slice A0 f0.length c0, .int .i64 f1, .int .i64 f2] 95 (0, 0))) : W.cell? ⟨g, 0, none⟩ = some (.slice A0 f0.length c0) := (blk_cell h 0).trans rfl
theorem cellS95_1 {W : World} {g : Nat} {A0 : Option Addr} {c0 : Nat} {f0 : List Int} {f1 : Int} {f2 : Int} (h : W.heap[g]? = some (.cells #[.slice A0 f0.length c0, .int .i64 f1, .int .i64 f2] 95 (0, 0))) : W.cell? ⟨g, 1, none⟩ = some (.int .i64 f1) := (blk_cell h 1).trans rfl
theorem IsS95.set_1 {w0 W : World} {g : Nat} {f0 : List Int} {f1 : Int} {f2 : Int} (h : IsS95 w0 W g f0 f1 f2) (x : Int) : IsS95 w0 (W.setCell ⟨g, 1, none⟩ (.int .i64 x)) g f0 x f2 := by
 obtain ⟨A0, c0, hb, hg, hr0⟩ := h
 exact ⟨A0, c0, by simpa using blk_set hb 1 (.int .i64 x), hg, hr0⟩
theorem cellS95_2 {W : World} {g : Nat} {A0 : Option Addr} {c0 : Nat} {f0 : List Int} {f1 : Int} {f2 : Int} (h : W.heap[g]? = some (.cells #[.slice A0 f0.length c0, .int .i64 f1, .int .i64 f2] 95 (0, 0))) : W.cell? ⟨g, 2, none⟩ = some (.int .i64 f2) := (blk_cell h 2).trans rfl
theorem IsS95.set_2 {w0 W : World} {g : Nat} {f0 : List Int} {f1 : Int} {f2 : Int} (h : IsS95 w0 W g f0 f1 f2) (x : Int) : IsS95 w0 (W.setCell ⟨g, 2, none⟩ (.int .i64 x)) g f0 f1 x := by
 obtain ⟨A0, c0, hb, hg, hr0⟩ := h
 exact ⟨A0, c0, by simpa using blk_set hb 2 (.int .i64 x), hg, hr0⟩
theorem IsS95.new (w0 W : World) (A0 : Option Addr) (c0 : Nat) (f0 : List Int) (f1 : Int) (f2 : Int) (hB : Below w0.heap.size w0 W) (hr0 : Kd.C (Kd.int .u8) w0 A0 f0.length f0) : IsS95 w0 (W.alloc (.cells #[.slice A0 f0.length c0, .int .i64 f1, .int .i64 f2] 95)) W.heap.size f0 f1 f2 := ⟨A0, c0, by simpa using heap_alloc_new W _, hB.size, hr0⟩

theorem aZ {P : Prop} (h : P := by repeat (first | (with_reducible first | exact HI0.out | apply IsS95.alloc | apply IsS95.drewN | apply IsS95.drew | apply IsS95.set_1 | apply IsS95.set_2 | refine IsS95.far ?_ (Aside0.out (by assumption)) _) | exact HI0.out)) : P := h
theorem aY {P : Prop} (h : P := by repeat (first | (with_reducible first | exact HB.out | apply below_alloc | apply pw_below_drewN | apply below_drew1 | refine below_set (w := w0) ?_ (IsS95.ge HI0.out) | refine below_set (w := w0) ?_ (Aside0.out (by assumption))) | exact HB.out)) : P := h
/-! ### spec_l1New: function 73 -/
def spec_l1New.l0 : Nat → List Int → Int → Int → Option (List Int × Int × Int)
 | 0, _, _, _ => none
 | k + 1, x0, x3, x4 => if x4 < (x0.length : Int) then (if x4 < 4000 then (if 0 ≤ x4 then (spec_l1New.l0 k x0 (Go.bits .and .i64 (wrap64 ((wrap64 ((wrap64 (x3 * 131)) + (wrap64 (rd x0 x4)))) + 7)) 1073741823) (wrap64 (x4 + 1))) else (none)) else (some (x0, 0, x3))) else (some (x0, 0, x3))
def spec_l1New.f (k : Nat) (l0 : List Int) : Option (List Int × Int × Int) := spec_l1New.l0 k l0 (wrap64 (10101 + (l0.length : Int))) 0
set_option maxHeartbeats 8000000 in
set_option maxRecDepth 100000 in
theorem spec_l1New.calls (k : Nat) (A0 : Option Addr) (c0 : Nat) (l0 : List Int) (r1 : List Int) (r2 : Int) (r3 : Int) (w0 w : World) (hB : Below w0.heap.size w0 w) (hr0 : Kd.C (Kd.int .u8) w0 A0 l0.length l0) (hc0 : l0.length ≤ c0) (h : spec_l1New.f k l0 = some (r1, r2, r3)) :
  Calls Try.prog 73 #[.slice A0 l0.length c0] w fun e w' => ∃ g_ : Nat, e = .returned (.pointer (some ⟨g_, 0, none⟩)) ∧ IsS95 w0 w' g_ r1 r2 r3 ∧ Below w0.heap.size w0 w' ∧ Below w.heap.size w w' := by
 have hu95 := Try.underlying95
 have HR0 := aM hr0
 have HC0 := aM hc0
 clear hr0 hc0
 have HBW := aM (Below.refl w.heap.size w)
 have HW0 := aM hB.size
 have HB := aM hB
 clear hB
 have H : (spec_l1New.l0 k l0 (wrap64 (10101 + (l0.length : Int))) 0) = some (r1, r2, r3) := h
 clear h
 have H' := aM H
 clear H
 go_enter Try.func73, Try.ntmps73
 go_wp2
 go_loopg [3, 4] k (fun kq v3 v4 w' => ∃ (x3_1 : Int) (x4_1 : Int), v3 = .int .i64 x3_1 ∧ v4 = .int .i64 x4_1 ∧ Aside0 (spec_l1New.l0 kq l0 x3_1 x4_1 = some (r1, r2, r3)) ∧ Aside0 (kq ≤ k) ∧ Aside0 (Below w0.heap.size w0 w') ∧ Aside0 (Below w.heap.size w w'))
 case atStart => exact ⟨(wrap64 (10101 + (l0.length : Int))), (0), aX, aX, H', ⟨Nat.le_refl _⟩, ⟨aB⟩, HBW⟩
 case round =>
  clear H'
  obtain ⟨x3_1, x4_1, rfl, rfl, HA, HK1, HB, HBW⟩ := hrel
  cases gk with
  | zero => exact absurd HA.out (by simp [spec_l1New.l0])
  | succ k1 =>
   have H := HA.out
   clear HA
   simp only [spec_l1New.l0] at H
   by_cases c2 : x4_1 < (l0.length : Int)
   ·rw [if_pos c2] at H
    have c2b0 : decide (x4_1 < (l0.length : Int)) = true := decide_eq_true c2
    clear c2
    by_cases c3 : x4_1 < 4000
    ·rw [if_pos c3] at H
     have c3b0 : decide (x4_1 < 4000) = true := decide_eq_true c3
     clear c3
     by_cases c4 : 0 ≤ x4_1
     ·rw [if_pos c4] at H
      have c4b0 : decide (0 ≤ x4_1) = true := decide_eq_true c4
      clear c4
      have H' := aM H
      clear H
      have p309 : 0 ≤ (x4_1 : Int) := aD
      have q309 : x4_1 < (l0.length : Int) := aD
      obtain ⟨ad309, e309, hx309_0⟩ := Kd.at_int HR0.out x4_1 p309 q309
      cases e309
      replace hx309_0 := pw_cell_below HB.out hx309_0
      replace p309 := eq_true p309
      replace q309 := eq_true q309
      go_wp2
      go_roundg k1
      case measure => have := HK1.out; omega
      case rel => exact ⟨(Go.bits .and .i64 (wrap64 ((wrap64 ((wrap64 (x3_1 * 131)) + (wrap64 (rd l0 x4_1)))) + 7)) 1073741823), (wrap64 (x4_1 + 1)), aX, aX, H', ⟨by have := HK1.out; omega⟩, ⟨aB⟩, HBW⟩
     ·rw [if_neg c4] at H
      exact absurd H (by simp)
    ·rw [if_neg c3] at H
     have c3b0 : decide (x4_1 < 4000) = false := decide_eq_false c3
     clear c3
     simp only [Option.some.injEq, Prod.mk.injEq] at H
     obtain ⟨rfl, rfl, rfl⟩ := H
     go_wp2_with (first | ((with_reducible refine gate_dst (N := 31) rfl ?_); refine bE 31 (cs := #[.slice A0 l0.length c0, .int .i64 0, .int .i64 x3_1]) (t := 95) ?_; intro gb310 hg w5 hbox hb; have BK310 := aM (hbox); have GW310 := aM ((by rw [hg]; exact (below_size (by repeat (first | (with_reducible first | exact HBW.out | apply below_alloc | apply pw_below_drewN | apply below_drew1) | exact HBW.out))) : w.heap.size ≤ gb310)); have GE310 := aM ((Nat.le_trans HW0.out (by rw [hg]; exact (below_size (by repeat (first | (with_reducible first | exact HBW.out | apply below_alloc | apply pw_below_drewN | apply below_drew1) | exact HBW.out))) : w.heap.size ≤ gb310) : w0.heap.size ≤ gb310)); replace HBW := aM (below_step HBW.out hb); replace HB := aM (below_step aB hb); clear hb hbox hg))
     go_ret
     exact ⟨_, rfl, (show IsS95 w0 _ gb310 l0 0 x3_1 from ⟨_, _, aK, GE310.out, HR0.out⟩), aG, by repeat (first | (with_reducible first | exact HBW.out | apply below_alloc | apply pw_below_drewN | apply below_drew1 | refine below_set ?_ GW310.out) | exact HBW.out)⟩
   ·rw [if_neg c2] at H
    have c2b0 : decide (x4_1 < (l0.length : Int)) = false := decide_eq_false c2
    clear c2
    simp only [Option.some.injEq, Prod.mk.injEq] at H
    obtain ⟨rfl, rfl, rfl⟩ := H
    go_wp2_with (first | ((with_reducible refine gate_dst (N := 31) rfl ?_); refine bE 31 (cs := #[.slice A0 l0.length c0, .int .i64 0, .int .i64 x3_1]) (t := 95) ?_; intro gb311 hg w6 hbox hb; have BK311 := aM (hbox); have GW311 := aM ((by rw [hg]; exact (below_size (by repeat (first | (with_reducible first | exact HBW.out | apply below_alloc | apply pw_below_drewN | apply below_drew1) | exact HBW.out))) : w.heap.size ≤ gb311)); have GE311 := aM ((Nat.le_trans HW0.out (by rw [hg]; exact (below_size (by repeat (first | (with_reducible first | exact HBW.out | apply below_alloc | apply pw_below_drewN | apply below_drew1) | exact HBW.out))) : w.heap.size ≤ gb311) : w0.heap.size ≤ gb311)); replace HBW := aM (below_step HBW.out hb); replace HB := aM (below_step aB hb); clear hb hbox hg))
    go_ret
    exact ⟨_, rfl, (show IsS95 w0 _ gb311 l0 0 x3_1 from ⟨_, _, aK, GE311.out, HR0.out⟩), aG, by repeat (first | (with_reducible first | exact HBW.out | apply below_alloc | apply pw_below_drewN | apply below_drew1 | refine below_set ?_ GW311.out) | exact HBW.out)⟩

/-! ### spec_l1Byte: function 93 -/
def spec_l1Byte.f (s0_0 : List Int) (s0_1 : Int) (s0_2 : Int) : Option (Int × Int × Int) := if s0_1 < (s0_0.length : Int) then (if 0 ≤ s0_1 then (some (Go.bits .and .i64 (wrap64 ((Go.bits .and .i64 (Go.bits .xor .i64 ((wrap64 ((wrap64 (s0_2 * 6364136223846793005)) + 1442695040888963407)) / 8589934592) ((wrap64 ((wrap64 (s0_2 * 6364136223846793005)) + 1442695040888963407)) / 35184372088832)) 255) + (wrap64 (rd s0_0 s0_1)))) 255, wrap64 (s0_1 + 1), wrap64 ((wrap64 (s0_2 * 6364136223846793005)) + 1442695040888963407))) else (none)) else (some (Go.bits .and .i64 (Go.bits .xor .i64 ((wrap64 ((wrap64 (s0_2 * 6364136223846793005)) + 1442695040888963407)) / 8589934592) ((wrap64 ((wrap64 (s0_2 * 6364136223846793005)) + 1442695040888963407)) / 35184372088832)) 255, s0_1, wrap64 ((wrap64 (s0_2 * 6364136223846793005)) + 1442695040888963407)))
set_option maxHeartbeats 8000000 in
set_option maxRecDepth 100000 in
theorem spec_l1Byte.calls (g : Nat) (s0_0 : List Int) (s0_1 : Int) (s0_2 : Int) (r1 : Int) (r2 : Int) (r3 : Int) (w0 w : World) (hI : IsS95 w0 w g s0_0 s0_1 s0_2) (hB : Below w0.heap.size w0 w) (h : spec_l1Byte.f s0_0 s0_1 s0_2 = some (r1, r2, r3)) :
  Calls Try.prog 93 #[.pointer (some ⟨g, 0, none⟩)] w fun e w' => e = .returned (.int .i64 r1) ∧ IsS95 w0 w' g s0_0 r2 r3 ∧ Below w0.heap.size w0 w' ∧ KeepBut w w' g none := by
 have HI0 := aM hI
 have HK := aM (KeepBut.refl w g none)
 have HL := aM hB.size
 clear hI
 have HW0 := aM hB.size
 have HB := aM hB
 clear hB
 have H : (if s0_1 < (s0_0.length : Int) then (if 0 ≤ s0_1 then (some (Go.bits .and .i64 (wrap64 ((Go.bits .and .i64 (Go.bits .xor .i64 ((wrap64 ((wrap64 (s0_2 * 6364136223846793005)) + 1442695040888963407)) / 8589934592) ((wrap64 ((wrap64 (s0_2 * 6364136223846793005)) + 1442695040888963407)) / 35184372088832)) 255) + (wrap64 (rd s0_0 s0_1)))) 255, wrap64 (s0_1 + 1), wrap64 ((wrap64 (s0_2 * 6364136223846793005)) + 1442695040888963407))) else (none)) else (some (Go.bits .and .i64 (Go.bits .xor .i64 ((wrap64 ((wrap64 (s0_2 * 6364136223846793005)) + 1442695040888963407)) / 8589934592) ((wrap64 ((wrap64 (s0_2 * 6364136223846793005)) + 1442695040888963407)) / 35184372088832)) 255, s0_1, wrap64 ((wrap64 (s0_2 * 6364136223846793005)) + 1442695040888963407)))) = some (r1, r2, r3) := h
 clear h
 by_cases c2 : s0_1 < (s0_0.length : Int)
 ·rw [if_pos c2] at H
  have c2b0 : decide (s0_1 < (s0_0.length : Int)) = true := decide_eq_true c2
  clear c2
  by_cases c3 : 0 ≤ s0_1
  ·rw [if_pos c3] at H
   have c3b0 : decide (0 ≤ s0_1) = true := decide_eq_true c3
   clear c3
   simp only [Option.some.injEq, Prod.mk.injEq] at H
   obtain ⟨rfl, rfl, rfl⟩ := H
   obtain ⟨ASz4_0, cSz4_0, HGz4, hgz4, HSz4_0⟩ := HI0.out
   have hcz4_0 := cellS95_0 HGz4
   have hcz4_1 := cellS95_1 HGz4
   have hcz4_2 := cellS95_2 HGz4
   have hfz4_1 := blk_frozen HGz4 1
   have hfz4_2 := blk_frozen HGz4 2
   clear HGz4 hgz4
   have p312 : 0 ≤ (s0_1 : Int) := aD
   have q312 : s0_1 < (s0_0.length : Int) := aD
   obtain ⟨ad312, e312, hx312_0⟩ := Kd.at_int HSz4_0 s0_1 p312 q312
   cases e312
   have hn312_0 : ad312.block ≠ g := Nat.ne_of_lt (Nat.lt_of_lt_of_le (by have := World.block_lt_of_cell? _ _ hx312_0; first | rwa [add_block] at this | exact this) (IsS95.ge HI0.out))
   replace hx312_0 := pw_cell_below HB.out hx312_0
   replace hx312_0 := (cell_far (p := ⟨g, 2, none⟩) (by first | (rw [add_block]; exact hn312_0) | (show (Addr.add _ _).block ≠ _; rw [add_block]; exact hn312_0) | exact hn312_0) (.int .i64 (wrap64 ((wrap64 (s0_2 * 6364136223846793005)) + 1442695040888963407)))).trans hx312_0
   (try have hy312_0 := fun (n_ : Nat) => (show (((w.drewN n_).setCell ⟨g, 2, none⟩ (.int .i64 (wrap64 ((wrap64 (s0_2 * 6364136223846793005)) + 1442695040888963407))))).cell? _ = some _ from hx312_0))
   clear hn312_0
   replace p312 := eq_true p312
   replace q312 := eq_true q312
   go_enter Try.func93, Try.ntmps93
   go_wp2
   repeat (go_quiet (fail); try go_wp2)
   go_ret
   exact ⟨aE, aZ, aY, aQ⟩
  ·rw [if_neg c3] at H
   exact absurd H (by simp)
 ·rw [if_neg c2] at H
  have c2b0 : decide (s0_1 < (s0_0.length : Int)) = false := decide_eq_false c2
  clear c2
  simp only [Option.some.injEq, Prod.mk.injEq] at H
  obtain ⟨rfl, rfl, rfl⟩ := H
  obtain ⟨ASz5_0, cSz5_0, HGz5, hgz5, HSz5_0⟩ := HI0.out
  have hcz5_0 := cellS95_0 HGz5
  have hcz5_1 := cellS95_1 HGz5
  have hcz5_2 := cellS95_2 HGz5
  have hfz5_1 := blk_frozen HGz5 1
  have hfz5_2 := blk_frozen HGz5 2
  clear HGz5 hgz5
  go_enter Try.func93, Try.ntmps93
  go_wp2
  repeat (go_quiet (fail); try go_wp2)
  go_ret
  exact ⟨aE, aZ, aY, aQ⟩

/-! ### spec_l1Below: function 83 -/
def spec_l1Below.f (s0_0 : List Int) (s0_1 : Int) (s0_2 : Int) (a1 : Int) : Option (Int × Int × Int) := if a1 ≤ 0 then (some (0, s0_1, s0_2)) else (if a1 ≤ 256 then ((spec_l1Byte.f s0_0 s0_1 s0_2).bind fun bt313 => (if a1 = 0 then (none) else (some (Int.tmod bt313.1 a1, bt313.2.1, bt313.2.2)))) else ((spec_l1Byte.f s0_0 s0_1 s0_2).bind fun bt316 => ((spec_l1Byte.f s0_0 bt316.2.1 bt316.2.2).bind fun bt319 => ((spec_l1Byte.f s0_0 bt319.2.1 bt319.2.2).bind fun bt322 => ((spec_l1Byte.f s0_0 bt322.2.1 bt322.2.2).bind fun bt325 => (if a1 = 0 then (none) else (some (Int.tmod (wrap64 ((wrap64 ((wrap64 ((wrap64 (bt316.1 * 16777216)) + (wrap64 (bt319.1 * 65536)))) + (wrap64 (bt322.1 * 256)))) + bt325.1)) a1, bt325.2.1, bt325.2.2))))))))
set_option maxHeartbeats 8000000 in
set_option maxRecDepth 100000 in
theorem spec_l1Below.calls (g : Nat) (s0_0 : List Int) (s0_1 : Int) (s0_2 : Int) (a1 : Int) (r1 : Int) (r2 : Int) (r3 : Int) (w0 w : World) (hI : IsS95 w0 w g s0_0 s0_1 s0_2) (hB : Below w0.heap.size w0 w) (h : spec_l1Below.f s0_0 s0_1 s0_2 a1 = some (r1, r2, r3)) :
  Calls Try.prog 83 #[.pointer (some ⟨g, 0, none⟩), .int .i64 a1] w fun e w' => e = .returned (.int .i64 r1) ∧ IsS95 w0 w' g s0_0 r2 r3 ∧ Below w0.heap.size w0 w' ∧ KeepBut w w' g none := by
 have HI0 := aM hI
 have HK := aM (KeepBut.refl w g none)
 have HL := aM hB.size
 clear hI
 have HW0 := aM hB.size
 have HB := aM hB
 clear hB
 have H : (if a1 ≤ 0 then (some (0, s0_1, s0_2)) else (if a1 ≤ 256 then ((spec_l1Byte.f s0_0 s0_1 s0_2).bind fun bt313 => (if a1 = 0 then (none) else (some (Int.tmod bt313.1 a1, bt313.2.1, bt313.2.2)))) else ((spec_l1Byte.f s0_0 s0_1 s0_2).bind fun bt316 => ((spec_l1Byte.f s0_0 bt316.2.1 bt316.2.2).bind fun bt319 => ((spec_l1Byte.f s0_0 bt319.2.1 bt319.2.2).bind fun bt322 => ((spec_l1Byte.f s0_0 bt322.2.1 bt322.2.2).bind fun bt325 => (if a1 = 0 then (none) else (some (Int.tmod (wrap64 ((wrap64 ((wrap64 ((wrap64 (bt316.1 * 16777216)) + (wrap64 (bt319.1 * 65536)))) + (wrap64 (bt322.1 * 256)))) + bt325.1)) a1, bt325.2.1, bt325.2.2))))))))) = some (r1, r2, r3) := h
 clear h
 by_cases c3 : a1 ≤ 0
 ·rw [if_pos c3] at H
  have c3b0 : decide (a1 ≤ 0) = true := decide_eq_true c3
  clear c3
  simp only [Option.some.injEq, Prod.mk.injEq] at H
  obtain ⟨rfl, rfl, rfl⟩ := H
  go_enter Try.func83, Try.ntmps83
  go_wp2
  go_ret
  exact ⟨aE, aZ, aY, aQ⟩
 ·rw [if_neg c3] at H
  have c3b0 : decide (a1 ≤ 0) = false := decide_eq_false c3
  clear c3
  by_cases c4 : a1 ≤ 256
  ·rw [if_pos c4] at H
   have c4b0 : decide (a1 ≤ 256) = true := decide_eq_true c4
   clear c4
   replace H := bM H
   obtain ⟨⟨t313, t314, t315⟩, A50, H⟩ := H
   dsimp only at H
   have A5 := aM A50
   clear A50
   by_cases c6 : a1 = 0
   ·rw [if_pos c6] at H
    exact absurd H (by simp)
   ·rw [if_neg c6] at H
    have c6b0 : (a1 == 0) = false := beq_eq_false_iff_ne.mpr c6
    have c6b1 : (a1 != 0) = true := bne_iff_ne.mpr c6
    simp only [Option.some.injEq, Prod.mk.injEq] at H
    obtain ⟨rfl, rfl, rfl⟩ := H
    go_enter Try.func83, Try.ntmps83
    go_wp2_with (first | ((with_reducible refine gate_callee (f := 93) rfl ?_); refine goesL_ (some 14) rfl rfl Try.func93 (by kernel_rfl) rfl #[.pointer (some ⟨g, 0, none⟩)] rfl aA ?_; (with_reducible refine (spec_l1Byte.calls g s0_0 s0_1 s0_2 t313 t314 t315 w0 _ ?side1 ?side2 A5.out).mono ?_); (case side1 => exact aZ); (case side2 => exact aY); rintro e w7 ⟨rfl, hi, hb, hk⟩; refine ⟨_, rfl, ?_⟩; replace HK := aM (KeepBut.trans aQ hk (.inl rfl)); replace HB := aM (hb); replace HI0 := aM (hi); (try clear hb); (try clear hb2); (try clear hk); (try clear hi)))
    go_ret
    exact ⟨aE, aZ, aY, aQ⟩
  ·rw [if_neg c4] at H
   have c4b0 : decide (a1 ≤ 256) = false := decide_eq_false c4
   clear c4
   replace H := bM H
   obtain ⟨⟨t316, t317, t318⟩, A80, H⟩ := H
   dsimp only at H
   have A8 := aM A80
   clear A80
   replace H := bM H
   obtain ⟨⟨t319, t320, t321⟩, A90, H⟩ := H
   dsimp only at H
   have A9 := aM A90
   clear A90
   replace H := bM H
   obtain ⟨⟨t322, t323, t324⟩, A100, H⟩ := H
   dsimp only at H
   have A10 := aM A100
   clear A100
   replace H := bM H
   obtain ⟨⟨t325, t326, t327⟩, A110, H⟩ := H
   dsimp only at H
   have A11 := aM A110
   clear A110
   by_cases c12 : a1 = 0
   ·rw [if_pos c12] at H
    exact absurd H (by simp)
   ·rw [if_neg c12] at H
    have c12b0 : (a1 == 0) = false := beq_eq_false_iff_ne.mpr c12
    have c12b1 : (a1 != 0) = true := bne_iff_ne.mpr c12
    simp only [Option.some.injEq, Prod.mk.injEq] at H
    obtain ⟨rfl, rfl, rfl⟩ := H
    go_enter Try.func83, Try.ntmps83
    go_wp2_with (first | ((with_reducible refine gate_callee (f := 93) rfl ?_); refine goesL_ (some 18) rfl rfl Try.func93 (by kernel_rfl) rfl #[.pointer (some ⟨g, 0, none⟩)] rfl aA ?_; (with_reducible refine (spec_l1Byte.calls g s0_0 s0_1 s0_2 t316 t317 t318 w0 _ ?side1 ?side2 A8.out).mono ?_); (case side1 => exact aZ); (case side2 => exact aY); rintro e w13 ⟨rfl, hi, hb, hk⟩; refine ⟨_, rfl, ?_⟩; replace HK := aM (KeepBut.trans aQ hk (.inl rfl)); replace HB := aM (hb); replace HI0 := aM (hi); (try clear hb); (try clear hb2); (try clear hk); (try clear hi)) | ((with_reducible refine gate_callee (f := 93) rfl ?_); refine goesL_ (some 20) rfl rfl Try.func93 (by kernel_rfl) rfl #[.pointer (some ⟨g, 0, none⟩)] rfl aA ?_; (with_reducible refine (spec_l1Byte.calls g s0_0 t317 t318 t319 t320 t321 w0 _ ?side1 ?side2 A9.out).mono ?_); (case side1 => exact aZ); (case side2 => exact aY); rintro e w14 ⟨rfl, hi, hb, hk⟩; refine ⟨_, rfl, ?_⟩; replace HK := aM (KeepBut.trans aQ hk (.inl rfl)); replace HB := aM (hb); replace HI0 := aM (hi); (try clear hb); (try clear hb2); (try clear hk); (try clear hi)) | ((with_reducible refine gate_callee (f := 93) rfl ?_); refine goesL_ (some 22) rfl rfl Try.func93 (by kernel_rfl) rfl #[.pointer (some ⟨g, 0, none⟩)] rfl aA ?_; (with_reducible refine (spec_l1Byte.calls g s0_0 t320 t321 t322 t323 t324 w0 _ ?side1 ?side2 A10.out).mono ?_); (case side1 => exact aZ); (case side2 => exact aY); rintro e w15 ⟨rfl, hi, hb, hk⟩; refine ⟨_, rfl, ?_⟩; replace HK := aM (KeepBut.trans aQ hk (.inl rfl)); replace HB := aM (hb); replace HI0 := aM (hi); (try clear hb); (try clear hb2); (try clear hk); (try clear hi)) | ((with_reducible refine gate_callee (f := 93) rfl ?_); refine goesL_ (some 24) rfl rfl Try.func93 (by kernel_rfl) rfl #[.pointer (some ⟨g, 0, none⟩)] rfl aA ?_; (with_reducible refine (spec_l1Byte.calls g s0_0 t323 t324 t325 t326 t327 w0 _ ?side1 ?side2 A11.out).mono ?_); (case side1 => exact aZ); (case side2 => exact aY); rintro e w16 ⟨rfl, hi, hb, hk⟩; refine ⟨_, rfl, ?_⟩; replace HK := aM (KeepBut.trans aQ hk (.inl rfl)); replace HB := aM (hb); replace HI0 := aM (hi); (try clear hb); (try clear hb2); (try clear hk); (try clear hi)))
    go_ret
    exact ⟨aE, aZ, aY, aQ⟩

/-! ### spec_l1PickInt: function 91 -/
def spec_l1PickInt.f (s0_0 : List Int) (s0_1 : Int) (s0_2 : Int) (l1 : List Int) : Option (Int × Int × Int) := (spec_l1Below.f s0_0 s0_1 s0_2 (l1.length : Int)).bind fun bt328 => (if 0 ≤ bt328.1 then (if bt328.1 < (l1.length : Int) then (some (rd l1 bt328.1, bt328.2.1, bt328.2.2)) else (none)) else (none))
set_option maxHeartbeats 8000000 in
set_option maxRecDepth 100000 in
theorem spec_l1PickInt.calls (g : Nat) (s0_0 : List Int) (s0_1 : Int) (s0_2 : Int) (A1 : Option Addr) (c1 : Nat) (l1 : List Int) (r1 : Int) (r2 : Int) (r3 : Int) (w0 w : World) (hI : IsS95 w0 w g s0_0 s0_1 s0_2) (hB : Below w0.heap.size w0 w) (hr1 : Kd.C (Kd.int .i64) w A1 l1.length l1) (hc1 : l1.length ≤ c1) (hf1 : ∀ ad, A1 = some ad → 0 < l1.length → ad.block ≠ g) (h : spec_l1PickInt.f s0_0 s0_1 s0_2 l1 = some (r1, r2, r3)) :
  Calls Try.prog 91 #[.pointer (some ⟨g, 0, none⟩), .slice A1 l1.length c1] w fun e w' => e = .returned (.int .i64 r1) ∧ IsS95 w0 w' g s0_0 r2 r3 ∧ Below w0.heap.size w0 w' ∧ KeepBut w w' g none := by
 have HR1 := aM hr1
 have HC1 := aM hc1
 clear hr1 hc1
 have HI0 := aM hI
 have HK := aM (KeepBut.refl w g none)
 have HL := aM hB.size
 clear hI
 have HW0 := aM hB.size
 have HB := aM hB
 clear hB
 have H : ((spec_l1Below.f s0_0 s0_1 s0_2 (l1.length : Int)).bind fun bt328 => (if 0 ≤ bt328.1 then (if bt328.1 < (l1.length : Int) then (some (rd l1 bt328.1, bt328.2.1, bt328.2.2)) else (none)) else (none))) = some (r1, r2, r3) := h
 clear h
 replace H := bM H
 obtain ⟨⟨t328, t329, t330⟩, A30, H⟩ := H
 dsimp only at H
 have A3 := aM A30
 clear A30
 by_cases c4 : 0 ≤ t328
 ·rw [if_pos c4] at H
  have c4b0 : decide (0 ≤ t328) = true := decide_eq_true c4
  clear c4
  by_cases c5 : t328 < (l1.length : Int)
  ·rw [if_pos c5] at H
   have c5b0 : decide (t328 < (l1.length : Int)) = true := decide_eq_true c5
   clear c5
   simp only [Option.some.injEq, Prod.mk.injEq] at H
   obtain ⟨rfl, rfl, rfl⟩ := H
   go_enter Try.func91, Try.ntmps91
   go_wp2_with (first | ((with_reducible refine gate_callee (f := 83) rfl ?_); refine goesL_ (some 9) rfl rfl Try.func83 (by kernel_rfl) rfl #[.pointer (some ⟨g, 0, none⟩), .int .i64 (l1.length : Int)] rfl aA ?_; (with_reducible refine (spec_l1Below.calls g s0_0 s0_1 s0_2 (l1.length : Int) t328 t329 t330 w0 _ ?side1 ?side2 A3.out).mono ?_); (case side1 => exact aZ); (case side2 => exact aY); rintro e w6 ⟨rfl, hi, hb, hk⟩; refine ⟨_, rfl, ?_⟩; replace HK := aM (KeepBut.trans aQ hk (.inl rfl)); replace HB := aM (hb); replace HI0 := aM (hi); (try clear hb); (try clear hb2); (try clear hk); (try clear hi); have p331 : 0 ≤ (t328 : Int) := aD; have q331 : t328 < (l1.length : Int) := aD; obtain ⟨ad331, e331, hx331_0⟩ := Kd.at_int HR1.out t328 p331 q331; cases e331; replace hx331_0 := keep_cell HK.out hx331_0 (by first | (rw [add_block]; exact hf1 _ rfl (by omega)) | exact hf1 _ rfl (by omega) | exact hf1 ad331 rfl (by omega)); replace p331 := eq_true p331; replace q331 := eq_true q331))
   go_ret
   exact ⟨aE, aZ, aY, aQ⟩
  ·rw [if_neg c5] at H
   exact absurd H (by simp)
 ·rw [if_neg c4] at H
  exact absurd H (by simp)

/-! ### spec_l2Sigs: function 90 -/
def spec_l2Sigs.f (s0_0 : List Int) (s0_1 : Int) (s0_2 : Int) : Option ((List (S74)) × Int × Int) := (spec_l1PickInt.f s0_0 s0_1 s0_2 (([1, 1, 2, 0] : List Int))).bind fun bt335 => ((spec_l1Below.f s0_0 bt335.2.1 bt335.2.2 2).bind fun bt338 => (some ((([(⟨(⟨#[114]⟩ : ByteArray), 2, 1⟩ : S74), (⟨(⟨#[115]⟩ : ByteArray), 2, 1⟩ : S74), (⟨(⟨#[116]⟩ : ByteArray), 2, bt335.1⟩ : S74), (⟨(⟨#[117]⟩ : ByteArray), 3, wrap64 (1 + bt338.1)⟩ : S74)] : List (S74))), bt338.2.1, bt338.2.2)))
set_option maxHeartbeats 8000000 in
set_option maxRecDepth 100000 in
theorem spec_l2Sigs.calls (g : Nat) (s0_0 : List Int) (s0_1 : Int) (s0_2 : Int) (r1 : List (S74)) (r2 : Int) (r3 : Int) (w0 w : World) (hI : IsS95 w0 w g s0_0 s0_1 s0_2) (hB : Below w0.heap.size w0 w) (h : spec_l2Sigs.f s0_0 s0_1 s0_2 = some (r1, r2, r3)) :
  Calls Try.prog 90 #[.pointer (some ⟨g, 0, none⟩)] w fun e w' => ∃ v0_ : Value, e = .returned (v0_) ∧ Kd.R k74 74 w' w.heap.size (fun _ => True) v0_ r1 ∧ IsS95 w0 w' g s0_0 r2 r3 ∧ Below w0.heap.size w0 w' ∧ KeepBut w w' g none := by
 have hu74 := Try.underlying74
 have HI0 := aM hI
 have HK := aM (KeepBut.refl w g none)
 have HL := aM hB.size
 clear hI
 have HW0 := aM hB.size
 have HB := aM hB
 clear hB
 have H : ((spec_l1PickInt.f s0_0 s0_1 s0_2 (([1, 1, 2, 0] : List Int))).bind fun bt335 => ((spec_l1Below.f s0_0 bt335.2.1 bt335.2.2 2).bind fun bt338 => (some ((([(⟨(⟨#[114]⟩ : ByteArray), 2, 1⟩ : S74), (⟨(⟨#[115]⟩ : ByteArray), 2, 1⟩ : S74), (⟨(⟨#[116]⟩ : ByteArray), 2, bt335.1⟩ : S74), (⟨(⟨#[117]⟩ : ByteArray), 3, wrap64 (1 + bt338.1)⟩ : S74)] : List (S74))), bt338.2.1, bt338.2.2)))) = some (r1, r2, r3) := h
 clear h
 obtain ⟨y332, hy332⟩ : ∃ y_ : List Int, y_ = (([1, 1, 2, 0] : List Int)) := ⟨_, rfl⟩
 first | replace H := bY hy332 H | rw [← hy332] at H
 have Ny332 := aM hy332
 clear hy332
 replace H := bM H
 obtain ⟨⟨t335, t336, t337⟩, A20, H⟩ := H
 dsimp only at H
 have A2 := aM A20
 clear A20
 replace H := bM H
 obtain ⟨⟨t338, t339, t340⟩, A30, H⟩ := H
 dsimp only at H
 have A3 := aM A30
 clear A30
 obtain ⟨y341, hy341⟩ : ∃ y_ : List (S74), y_ = (([(⟨(⟨#[114]⟩ : ByteArray), 2, 1⟩ : S74), (⟨(⟨#[115]⟩ : ByteArray), 2, 1⟩ : S74), (⟨(⟨#[116]⟩ : ByteArray), 2, t335⟩ : S74), (⟨(⟨#[117]⟩ : ByteArray), 3, wrap64 (1 + t338)⟩ : S74)] : List (S74))) := ⟨_, rfl⟩
 first | replace H := bY hy341 H | rw [← hy341] at H
 have Ny341 := aM hy341
 clear hy341
 simp only [Option.some.injEq, Prod.mk.injEq] at H
 obtain ⟨rfl, rfl, rfl⟩ := H
 go_enter Try.func90, Try.ntmps90
 go_wp2_with (first | ((with_reducible refine gate_dst (N := 6) rfl ?_); refine Kd.R_lit (Kd.int .i64) _ 3 ?hg (N := 6) ?hd (xs := ([1, 1, 2, 0] : List Int)) (inner := [.int .i64 1, .int .i64 1, .int .i64 2, .int .i64 0]) (ok := fun _ => True) (okp := fun _ => True) ?hr ?hp (fun _ hk => hk) trivial (Below.refl _ _) (Nat.le_refl _) (by simp) ?_; (case hd => rfl); (case hg => rfl); (case hr => first | (go_simp; done) | (go_simp; rfl)); (case hp => exact (Reps.one (show Kd.M (Kd.int .i64) _ _ _ 1 [.int .i64 1] from rfl) (Reps.one (show Kd.M (Kd.int .i64) _ _ _ 1 [.int .i64 1] from rfl) (Reps.one (show Kd.M (Kd.int .i64) _ _ _ 2 [.int .i64 2] from rfl) (Reps.one (show Kd.M (Kd.int .i64) _ _ _ 0 [.int .i64 0] from rfl) (Reps.none _ _)))))); intro v333 w4 ho5 hb hg_ hnew_; clear hg_ hnew_; (first | rw [← Ny332.out] at ho5 | (simp only [Int.reduceToNat] at ho5; rw [← Ny332.out] at ho5)); have HO334 := aM (Kd.R_lower ho5 (kS (w := w) (g := g))); replace HK := aM (KeepBut.trans aQ (KeepBut.of_below hb g none) (.inl rfl)); replace HB := aM (below_step aY hb); replace HI0 := aM (IsS95.below aZ hb); clear hb ho5; obtain ⟨Ao6, co6, eo6⟩ := Kd.R_slice HO334.out; subst eo6) | ((with_reducible refine gate_callee (f := 91) rfl ?_); refine goesL_ (some 7) rfl rfl Try.func91 (by kernel_rfl) rfl #[.pointer (some ⟨g, 0, none⟩), .slice Ao6 y332.length co6] rfl aA ?_; (with_reducible refine (spec_l1PickInt.calls g s0_0 s0_1 s0_2 _ _ y332 t335 t336 t337 w0 _ ?side1 ?side2 ?side3 ?side4 ?side5 A2.out).mono ?_); (case side1 => exact aZ); (case side2 => exact aY); (case side3 => repeat (first | exact (Kd.R_reads' HO334.out).2.2 | (with_reducible refine pC ?_))); (case side4 => exact (Kd.R_reads' HO334.out).2.1); (case side5 => exact far_slice (IsS95.own_ne HI0.out HO334.out (by decide))); rintro e w7 ⟨rfl, hi, hb, hk⟩; refine ⟨_, rfl, ?_⟩; replace HO334 := aM (Kd.R_mono (Kd.R_keep (IsS95.apart (show IsS95 w0 _ g s0_0 s0_1 s0_2 from aZ) (aR HO334) (by decide)) hk (fun _ h => h.2)) (fun _ h => h.1)); replace HK := aM (KeepBut.trans aQ hk (.inl rfl)); replace HB := aM (hb); replace HI0 := aM (hi); (try clear hb); (try clear hb2); (try clear hk); (try clear hi)) | ((with_reducible refine gate_callee (f := 83) rfl ?_); refine goesL_ (some 10) rfl rfl Try.func83 (by kernel_rfl) rfl #[.pointer (some ⟨g, 0, none⟩), .int .i64 2] rfl aA ?_; (with_reducible refine (spec_l1Below.calls g s0_0 t336 t337 2 t338 t339 t340 w0 _ ?side1 ?side2 A3.out).mono ?_); (case side1 => exact aZ); (case side2 => exact aY); rintro e w8 ⟨rfl, hi, hb, hk⟩; refine ⟨_, rfl, ?_⟩; replace HO334 := aM (Kd.R_mono (Kd.R_keep (IsS95.apart (show IsS95 w0 _ g s0_0 t336 t337 from aZ) (aR HO334) (by decide)) hk (fun _ h => h.2)) (fun _ h => h.1)); replace HK := aM (KeepBut.trans aQ hk (.inl rfl)); replace HB := aM (hb); replace HI0 := aM (hi); (try clear hb); (try clear hb2); (try clear hk); (try clear hi)) | ((with_reducible refine gate_dst (N := 13) rfl ?_); refine Kd.R_lit k74 _ 74 ?hg (N := 13) ?hd (xs := ([(⟨(⟨#[114]⟩ : ByteArray), 2, 1⟩ : S74), (⟨(⟨#[115]⟩ : ByteArray), 2, 1⟩ : S74), (⟨(⟨#[116]⟩ : ByteArray), 2, t335⟩ : S74), (⟨(⟨#[117]⟩ : ByteArray), 3, wrap64 (1 + t338)⟩ : S74)] : List (S74))) (inner := [.string (⟨#[114]⟩ : ByteArray), .int .i64 2, .int .i64 1, .string (⟨#[115]⟩ : ByteArray), .int .i64 2, .int .i64 1, .string (⟨#[116]⟩ : ByteArray), .int .i64 2, .int .i64 t335, .string (⟨#[117]⟩ : ByteArray), .int .i64 3, .int .i64 (wrap64 (1 + t338))]) (ok := fun _ => True) (okp := fun _ => True) ?hr ?hp (fun _ hk => hk) trivial (Below.refl _ _) (Nat.le_refl _) (by simp) ?_; (case hd => rfl); (case hg => rfl); (case hr => first | (go_simp; done) | (go_simp; rfl)); (case hp => exact (Reps.c3 (show Kd.M k74 _ _ _ (⟨(⟨#[114]⟩ : ByteArray), 2, 1⟩ : S74) [.string (⟨#[114]⟩ : ByteArray), .int .i64 2, .int .i64 1] from (k74_mkM _ _ _ (⟨(⟨#[114]⟩ : ByteArray), 2, 1⟩ : S74) )) (Reps.c3 (show Kd.M k74 _ _ _ (⟨(⟨#[115]⟩ : ByteArray), 2, 1⟩ : S74) [.string (⟨#[115]⟩ : ByteArray), .int .i64 2, .int .i64 1] from (k74_mkM _ _ _ (⟨(⟨#[115]⟩ : ByteArray), 2, 1⟩ : S74) )) (Reps.c3 (show Kd.M k74 _ _ _ (⟨(⟨#[116]⟩ : ByteArray), 2, t335⟩ : S74) [.string (⟨#[116]⟩ : ByteArray), .int .i64 2, .int .i64 t335] from (k74_mkM _ _ _ (⟨(⟨#[116]⟩ : ByteArray), 2, t335⟩ : S74) )) (Reps.c3 (show Kd.M k74 _ _ _ (⟨(⟨#[117]⟩ : ByteArray), 3, wrap64 (1 + t338)⟩ : S74) [.string (⟨#[117]⟩ : ByteArray), .int .i64 3, .int .i64 (wrap64 (1 + t338))] from (k74_mkM _ _ _ (⟨(⟨#[117]⟩ : ByteArray), 3, wrap64 (1 + t338)⟩ : S74) )) (Reps.none _ _)))))); intro v342 w9 ho10 hb hg_ hnew_; clear hg_ hnew_; (first | rw [← Ny341.out] at ho10 | (simp only [Int.reduceToNat] at ho10; rw [← Ny341.out] at ho10)); have HO343 := aM (Kd.R_lower ho10 (kS (w := w) (g := g))); replace HO334 := aM (Kd.R_below (aR HO334) hb); replace HK := aM (KeepBut.trans aQ (KeepBut.of_below hb g none) (.inl rfl)); replace HB := aM (below_step aY hb); replace HI0 := aM (IsS95.below aZ hb); clear hb ho10))
 go_ret
 exact ⟨_, aE, aR HO343, aZ, aY, aQ⟩

end Go.Proofs.Yteddnlklfjpgoaa.PFnInsertDelete
