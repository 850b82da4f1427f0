-- Laid by a program of this claim: what the functions come to, some of them proved by hand.
import Derived.Test.YtdpaopfghggiaaaDoorPFnExactParseFactx0
import Derived.Test.YtdpaopfghggiaaaDoorPFnExactParseFactx1
import Derived.Test.YtdpaopfghggiaaaDoorPFnExactParseFactx2
import Derived.Test.YtdpaopfghggiaaaDoorPFnExactParseFactx4
namespace Go.Proofs.YtdpaopfghggiaaaDoor.PFnExactParseFact
open Go.RowKit Go.Proofs.YtdpaopfghggiaaaDoorW.PrintWords Go.Proofs.YtdpaopfghggiaaaDoorW.PrintLast Go.Proofs.YtdpaopfghggiaaaDoorW.PrintMore
attribute [local go_sem] max2_int min2_int max_two min_two max_three min_three max_four min_four   -- for this text's walks alone
set_option linter.unusedVariables false
set_option linter.unusedSimpArgs false

/-! ### laws_FnExactParseFact: function 9 -/
mutual
def laws_FnExactParseFact.j0 : Nat → List (S25) → ByteArray → Bool → List (S28) → Bool → Bool → Int → List Int → Int → List Int → Option (Bool)
 | 0, _, _, _, _, _, _, _, _, _, _ => none
 | k + 1, x0, x1, x7, x8, x10, x47, x228000, x228001, x237000, x237001 => if x47 = true then (some false) else ((laws_toRelationS.f k x0).bind fun t238 => ((laws_eqRelationS.f k x8 t238).bind fun t241 => (if t241 = true then ((laws_markRelationS.f k x8 1).bind fun bt242 => (if bt242.1 < 0 then (laws_FnExactParseFact.j1 k x0 x1 x7 true x228000 x228001 x237000 x237001) else ((laws_eqFact.f k x237000 x237001 x228000 x228001).bind fun t244 => (if t244 = true then (laws_FnExactParseFact.j1 k x0 x1 x7 (x10 != x7) x228000 x228001 x237000 x237001) else (laws_FnExactParseFact.j1 k x0 x1 x7 true x228000 x228001 x237000 x237001))))) else (some false))))
def laws_FnExactParseFact.j1 : Nat → List (S25) → ByteArray → Bool → Bool → Int → List Int → Int → List Int → Option (Bool)
 | 0, _, _, _, _, _, _, _, _ => none
 | k + 1, x0, x1, x7, x68, x228000, x228001, x237000, x237001 => if x68 = true then (some false) else ((laws_markFact.f k x237000 x237001 1).bind fun bt245 => ((laws_heldFact.f k x237000 bt245.2 1).bind fun t247 => (if t247 < 0 then (some false) else (if t247 = bt245.1 then ((laws_toRelationS.f k x0).bind fun t248 => ((impl_ParseFact.f k t248 x1).bind fun bt251 => ((laws_eqFact.f k bt251.1 bt251.2.1 x228000 x228001).bind fun t257 => (if t257 = true then (laws_FnExactParseFact.j2 k bt245.1 (bt251.2.2 != x7) x237000 bt245.2) else (laws_FnExactParseFact.j2 k bt245.1 true x237000 bt245.2))))) else (some false)))))
def laws_FnExactParseFact.j2 : Nat → Int → Bool → Int → List Int → Option (Bool)
 | 0, _, _, _, _ => none
 | k + 1, x12, x95, x237000, x237001 => if x95 = true then (some false) else ((laws_heldFact.f k x237000 x237001 1).bind fun t258 => (if t258 < 0 then (some false) else (if t258 = x12 then (some true) else (some false))))
end
def laws_FnExactParseFact.f (k : Nat) (l0 : List (S25)) (a1 : ByteArray) : Option (Bool) := if (a1.size : Int) > 1048576 then (some true) else ((laws_szRelationS.f k l0 1048576).bind fun t218 => (if t218 < 0 then (some true) else ((laws_toRelationS.f k l0).bind fun t219 => ((spec_ParseFact.f k t219 a1).bind fun bt222 => ((laws_toRelationS.f k l0).bind fun t228 => ((impl_ParseFact.f k t228 a1).bind fun bt231 => ((laws_eqFact.f k bt231.1 bt231.2.1 bt222.1 bt222.2.1).bind fun t237 => (if t237 = true then (laws_FnExactParseFact.j0 k l0 a1 bt222.2.2 t228 bt231.2.2 (bt231.2.2 != bt222.2.2) bt222.1 bt222.2.1 bt231.1 bt231.2.1) else (laws_FnExactParseFact.j0 k l0 a1 bt222.2.2 t228 bt231.2.2 true bt222.1 bt222.2.1 bt231.1 bt231.2.1)))))))))
set_option maxHeartbeats 8000000 in
set_option maxRecDepth 100000 in
theorem laws_FnExactParseFact.calls (k : Nat) (A0 : Option Addr) (c0 : Nat) (l0 : List (S25)) (a1 : ByteArray) (r : Bool) (w : World) (hr0 : Kd.C k25 w A0 l0.length l0) (hc0 : l0.length ≤ c0) (h : laws_FnExactParseFact.f k l0 a1 = some r) (hr_ : r = true) (hp_ : Go.Proofs.YtdpaopfghggiaaaDoor.Shelf.Pow w) :
  Calls Tryd.prog 9 #[.slice A0 l0.length c0, .string a1] w fun e w' => e = .returned (.bool r) ∧ Below w.heap.size w w' := by
 have HRT_ := aM hr_
 clear hr_
 have hu52 := Tryd.underlying52
 have HR0 := aM hr0
 have HC0 := aM hc0
 clear hr0 hc0
 have HB := aM (Below.refl w.heap.size w)
 have H : (if (a1.size : Int) > 1048576 then (some true) else ((laws_szRelationS.f k l0 1048576).bind fun t218 => (if t218 < 0 then (some true) else ((laws_toRelationS.f k l0).bind fun t219 => ((spec_ParseFact.f k t219 a1).bind fun bt222 => ((laws_toRelationS.f k l0).bind fun t228 => ((impl_ParseFact.f k t228 a1).bind fun bt231 => ((laws_eqFact.f k bt231.1 bt231.2.1 bt222.1 bt222.2.1).bind fun t237 => (if t237 = true then (laws_FnExactParseFact.j0 k l0 a1 bt222.2.2 t228 bt231.2.2 (bt231.2.2 != bt222.2.2) bt222.1 bt222.2.1 bt231.1 bt231.2.1) else (laws_FnExactParseFact.j0 k l0 a1 bt222.2.2 t228 bt231.2.2 true bt222.1 bt222.2.1 bt231.1 bt231.2.1)))))))))) = some r := h
 clear h
 by_cases c3 : (a1.size : Int) > 1048576
 ·rw [if_pos c3] at H
  have c3b0 : decide (1048576 < (a1.size : Int)) = true := decide_eq_true c3
  have c3b1 : decide (1048576 < a1.size) = true := decide_eq_true (by omega)
  clear c3
  obtain rfl := Option.some.inj H
  go_enter Tryd.func9, Tryd.ntmps9
  go_wp2
  go_ret
  exact ⟨by first | rfl | (simp [errW_none, errW_some] <;> rfl) | (simp [*, errW_none, errW_some] <;> rfl), by repeat (first | (with_reducible first | exact HB.out | apply below_alloc | apply pw_below_drewN | apply below_drew1) | exact HB.out)⟩
 ·rw [if_neg c3] at H
  have c3b0 : decide (1048576 < (a1.size : Int)) = false := decide_eq_false c3
  have c3b1 : decide (1048576 < a1.size) = false := decide_eq_false (by omega)
  clear c3
  replace H := Option.bind_eq_some_iff.mp H
  obtain ⟨t218, A40, H⟩ := H
  replace H : (if t218 < 0 then (some true) else ((laws_toRelationS.f k l0).bind fun t219 => ((spec_ParseFact.f k t219 a1).bind fun bt222 => ((laws_toRelationS.f k l0).bind fun t228 => ((impl_ParseFact.f k t228 a1).bind fun bt231 => ((laws_eqFact.f k bt231.1 bt231.2.1 bt222.1 bt222.2.1).bind fun t237 => (if t237 = true then (laws_FnExactParseFact.j0 k l0 a1 bt222.2.2 t228 bt231.2.2 (bt231.2.2 != bt222.2.2) bt222.1 bt222.2.1 bt231.1 bt231.2.1) else (laws_FnExactParseFact.j0 k l0 a1 bt222.2.2 t228 bt231.2.2 true bt222.1 bt222.2.1 bt231.1 bt231.2.1)))))))) = some r := H
  have A4 := aM A40
  clear A40
  by_cases c5 : t218 < 0
  ·rw [if_pos c5] at H
   have c5b0 : decide (t218 < 0) = true := decide_eq_true c5
   clear c5
   obtain rfl := Option.some.inj H
   go_enter Tryd.func9, Tryd.ntmps9
   go_wp2_with (first | ((with_reducible refine gate_callee (f := 28) rfl ?_); refine goesL_ (some 21) rfl rfl Tryd.func28 (by kernel_rfl) rfl #[.slice A0 l0.length c0, .int .i64 1048576] rfl (by (try simp only [List.map_toArray, List.map_cons, List.map_nil]); first | done | rfl | (simp only [List.length_drop, List.length_take]; rfl)) ?_; (with_reducible refine (laws_szRelationS.calls k _ _ l0 1048576 t218 _ ?side1 ?side2 A4.out).mono ?_); (case side1 => repeat (first | exact HR0.out | (with_reducible refine Kd.C_alloc ?_ _) | (with_reducible refine Kd.C_drewN ?_ _) | (with_reducible refine Kd.C_drew ?_))); (case side2 => exact HC0.out); rintro e w6 ⟨rfl, hb⟩; refine ⟨_, rfl, ?_⟩; have n0_ := aM (below_step aB hb); clear HB; have HB := n0_; clear n0_; (try clear hb); (try clear hb2); (try clear hk); (try clear hi)))
   go_ret
   exact ⟨by first | rfl | (simp [errW_none, errW_some] <;> rfl) | (simp [*, errW_none, errW_some] <;> rfl), by repeat (first | (with_reducible first | exact HB.out | apply below_alloc | apply pw_below_drewN | apply below_drew1) | exact HB.out)⟩
  ·rw [if_neg c5] at H
   have c5b0 : decide (t218 < 0) = false := decide_eq_false c5
   clear c5
   replace H := Option.bind_eq_some_iff.mp H
   obtain ⟨t219, A70, H⟩ := H
   replace H : ((spec_ParseFact.f k t219 a1).bind fun bt222 => ((laws_toRelationS.f k l0).bind fun t228 => ((impl_ParseFact.f k t228 a1).bind fun bt231 => ((laws_eqFact.f k bt231.1 bt231.2.1 bt222.1 bt222.2.1).bind fun t237 => (if t237 = true then (laws_FnExactParseFact.j0 k l0 a1 bt222.2.2 t228 bt231.2.2 (bt231.2.2 != bt222.2.2) bt222.1 bt222.2.1 bt231.1 bt231.2.1) else (laws_FnExactParseFact.j0 k l0 a1 bt222.2.2 t228 bt231.2.2 true bt222.1 bt222.2.1 bt231.1 bt231.2.1)))))) = some r := H
   have A7 := aM A70
   clear A70
   replace H := Option.bind_eq_some_iff.mp H
   obtain ⟨⟨t222, t223, t226⟩, A80, H⟩ := H
   replace H : ((laws_toRelationS.f k l0).bind fun t228 => ((impl_ParseFact.f k t228 a1).bind fun bt231 => ((laws_eqFact.f k bt231.1 bt231.2.1 t222 t223).bind fun t237 => (if t237 = true then (laws_FnExactParseFact.j0 k l0 a1 t226 t228 bt231.2.2 (bt231.2.2 != t226) t222 t223 bt231.1 bt231.2.1) else (laws_FnExactParseFact.j0 k l0 a1 t226 t228 bt231.2.2 true t222 t223 bt231.1 bt231.2.1))))) = some r := H
   have A8 := aM A80
   clear A80
   replace H := Option.bind_eq_some_iff.mp H
   obtain ⟨t228, A90, H⟩ := H
   replace H : ((impl_ParseFact.f k t228 a1).bind fun bt231 => ((laws_eqFact.f k bt231.1 bt231.2.1 t222 t223).bind fun t237 => (if t237 = true then (laws_FnExactParseFact.j0 k l0 a1 t226 t228 bt231.2.2 (bt231.2.2 != t226) t222 t223 bt231.1 bt231.2.1) else (laws_FnExactParseFact.j0 k l0 a1 t226 t228 bt231.2.2 true t222 t223 bt231.1 bt231.2.1)))) = some r := H
   have A9 := aM A90
   clear A90
   replace H := Option.bind_eq_some_iff.mp H
   obtain ⟨⟨t231, t232, t235⟩, A100, H⟩ := H
   replace H : ((laws_eqFact.f k t231 t232 t222 t223).bind fun t237 => (if t237 = true then (laws_FnExactParseFact.j0 k l0 a1 t226 t228 t235 (t235 != t226) t222 t223 t231 t232) else (laws_FnExactParseFact.j0 k l0 a1 t226 t228 t235 true t222 t223 t231 t232))) = some r := H
   have A10 := aM A100
   clear A100
   have HC11 := aM H
   clear H
   go_enter Tryd.func9, Tryd.ntmps9
   go_upto_region 10 with (first | ((with_reducible refine gate_callee (f := 28) rfl ?_); refine goesL_ (some 21) rfl rfl Tryd.func28 (by kernel_rfl) rfl #[.slice A0 l0.length c0, .int .i64 1048576] rfl (by (try simp only [List.map_toArray, List.map_cons, List.map_nil]); first | done | rfl | (simp only [List.length_drop, List.length_take]; rfl)) ?_; (with_reducible refine (laws_szRelationS.calls k _ _ l0 1048576 t218 _ ?side1 ?side2 A4.out).mono ?_); (case side1 => repeat (first | exact HR0.out | (with_reducible refine Kd.C_alloc ?_ _) | (with_reducible refine Kd.C_drewN ?_ _) | (with_reducible refine Kd.C_drew ?_))); (case side2 => exact HC0.out); rintro e w12 ⟨rfl, hb⟩; refine ⟨_, rfl, ?_⟩; have n0_ := aM (below_step aB hb); clear HB; have HB := n0_; clear n0_; (try clear hb); (try clear hb2); (try clear hk); (try clear hi)) | ((with_reducible refine gate_callee (f := 31) rfl ?_); refine goesL_ (some 26) rfl rfl Tryd.func31 (by kernel_rfl) rfl #[.slice A0 l0.length c0] rfl (by (try simp only [List.map_toArray, List.map_cons, List.map_nil]); first | done | rfl | (simp only [List.length_drop, List.length_take]; rfl)) ?_; (with_reducible refine (laws_toRelationS.calls k _ _ l0 t219 _ ?side1 ?side2 A7.out).mono ?_); (case side1 => exact aC); (case side2 => exact HC0.out); rintro e w13 ⟨v220, rfl, ho0, hb⟩; refine ⟨_, rfl, ?_⟩; have n0_ := aM (Kd.R_lower ho0 (below_size aB)); have n1_ := aM (below_step aB hb); clear HB; have HO221 := n0_; have HB := n1_; clear n0_ n1_; (try clear hb); (try clear hb2); (try clear hk); (try clear hi); (try clear ho0); obtain ⟨Ao14, co14, eo14⟩ := Kd.R_slice HO221.out; subst eo14) | ((with_reducible refine gate_callee (f := 38) rfl ?_); refine goesL_ (some 28) rfl rfl Tryd.func38 (by kernel_rfl) rfl #[.slice Ao14 t219.length co14, .string a1] rfl (by (try simp only [List.map_toArray, List.map_cons, List.map_nil]); first | done | rfl | (simp only [List.length_drop, List.length_take]; rfl)) ?_; (with_reducible refine (spec_ParseFact.calls k _ _ t219 a1 t222 t223 t226 _ ?side1 ?side2 A8.out).mono ?_); (case side1 => repeat (first | exact (Kd.R_reads' HO221.out).2.2 | (with_reducible refine Kd.C_alloc ?_ _) | (with_reducible refine Kd.C_drewN ?_ _) | (with_reducible refine Kd.C_drew ?_))); (case side2 => exact (Kd.R_reads' HO221.out).2.1); rintro e w15 ⟨v224, rfl, ho0, hb⟩; refine ⟨_, rfl, ?_⟩; have n0_ := aM (Kd.R_below (aR HO221) hb); have n1_ := aM (Kd.R_lower ho0 (below_size aB)); have n2_ := aM (below_step aB hb); clear HO221; clear HB; have HO221 := n0_; have HO225 := n1_; have HB := n2_; clear n0_ n1_ n2_; (try clear hb); (try clear hb2); (try clear hk); (try clear hi); (try clear ho0)) | ((with_reducible refine gate_dst (N := 6) rfl ?_); refine box_event ?hg (N := 6) ?hd (cs := #[.int .i64 0, .slice none 0 0]) (t := 52) ?hr ?_; (case hd => rfl); (case hg => rfl); (case hr => first | (go_simp; done) | (go_simp; rfl)); intro gb227 hg w16 hbox hb; have n0_ := aM (Kd.R_below (aR HO221) hb); have n1_ := aM (Kd.R_below (aR HO225) hb); have n2_ := aM (below_step aB hb); have n3_ := aM (hbox); have n4_ := aM ((by rw [hg]; exact (below_size aB) : w.heap.size ≤ gb227)); have n5_ := aM ((by rw [hg]; exact (below_size aB) : w.heap.size ≤ gb227)); clear HO221; clear HO225; clear HB; have HO221 := n0_; have HO225 := n1_; have HB := n2_; have BK227 := n3_; have GW227 := n4_; have GE227 := n5_; clear n0_ n1_ n2_ n3_ n4_ n5_; clear hb hbox hg; have hcz17_0 : w16.cell? ⟨gb227, 0, none⟩ = some (.int .i64 0) := (blk_cell BK227.out 0).trans rfl; have hcz17_1 : w16.cell? ⟨gb227, 1, none⟩ = some (.slice none 0 0) := (blk_cell BK227.out 1).trans rfl; have hfz17_0 := blk_frozen BK227.out 0; have hfz17_1 := blk_frozen BK227.out 1; obtain ⟨Ao18, co18, eo18⟩ := Kd.R_slice HO225.out; subst eo18) | ((with_reducible refine gate_callee (f := 31) rfl ?_); refine goesL_ (some 32) rfl rfl Tryd.func31 (by kernel_rfl) rfl #[.slice A0 l0.length c0] rfl (by (try simp only [List.map_toArray, List.map_cons, List.map_nil]); first | done | rfl | (simp only [List.length_drop, List.length_take]; rfl)) ?_; (with_reducible refine (laws_toRelationS.calls k _ _ l0 t228 _ ?side1 ?side2 A9.out).mono ?_); (case side1 => exact Kd.C_below HR0.out aG); (case side2 => exact HC0.out); rintro e w19 ⟨v229, rfl, ho0, hb⟩; refine ⟨_, rfl, ?_⟩; have n0_ := aM (Kd.R_elder' (by (with_reducible repeat (first | apply Kd.R_alloc | apply Kd.R_drewN | apply Kd.R_drew)); exact (Kd.R_mono (Kd.R_far (p := ⟨gb227, 1, none⟩) (Kd.R_far (p := ⟨gb227, 0, none⟩) (Kd.R_types HO221.out BK227.out (by decide)) (fun _ hk => hk.2) (.int .i64 t222)) (fun _ hk => hk.2) (.slice Ao18 t223.length co18)) (fun _ h_ => h_.1))) (Kd.R_base ho0) hb); have n1_ := aM (Kd.R_below (by (with_reducible repeat (first | apply Kd.R_alloc | apply Kd.R_drewN | apply Kd.R_drew)); exact (Kd.R_mono (Kd.R_far (p := ⟨gb227, 1, none⟩) (Kd.R_far (p := ⟨gb227, 0, none⟩) (Kd.R_types HO225.out BK227.out (by decide)) (fun _ hk => hk.2) (.int .i64 t222)) (fun _ hk => hk.2) (.slice Ao18 t223.length co18)) (fun _ h_ => h_.1))) hb); have n2_ := aM (Kd.R_lower (Kd.R_new' ho0 (Kd.R_lt (by (with_reducible repeat (first | apply Kd.R_alloc | apply Kd.R_drewN | apply Kd.R_drew)); exact (Kd.R_mono (Kd.R_far (p := ⟨gb227, 1, none⟩) (Kd.R_far (p := ⟨gb227, 0, none⟩) (Kd.R_types HO221.out BK227.out (by decide)) (fun _ hk => hk.2) (.int .i64 t222)) (fun _ hk => hk.2) (.slice Ao18 t223.length co18)) (fun _ h_ => h_.1))))) (below_size aG)); have n3_ := aM (blk_below (g := gb227) (o := .cells #[.int .i64 t222, .slice Ao18 t223.length co18] 52 (0, 0)) (by (with_reducible repeat (first | refine blk_drewN ?_ _ | refine blk_drew ?_ | refine blk_alloc ?_ _)); refine blk_put (cs := #[.int .i64 t222, .slice none 0 0]) ?_ 1 _ rfl; (with_reducible repeat (first | refine blk_drewN ?_ _ | refine blk_drew ?_ | refine blk_alloc ?_ _)); refine blk_put (cs := #[.int .i64 0, .slice none 0 0]) ?_ 0 _ rfl; (with_reducible repeat (first | refine blk_drewN ?_ _ | refine blk_drew ?_ | refine blk_alloc ?_ _)); exact BK227.out) hb); have n4_ := aM (below_step aG hb); clear HO221; clear HO225; clear BK227; clear HB; have HO221 := n0_; have HO225 := n1_; have HO230 := n2_; have BK227 := n3_; have HB := n4_; clear n0_ n1_ n2_ n3_ n4_; (try clear hb); (try clear hb2); (try clear hk); (try clear hi); (try clear ho0); obtain ⟨Ao20, co20, eo20⟩ := Kd.R_slice HO230.out; subst eo20) | ((with_reducible refine gate_callee (f := 39) rfl ?_); refine goesL_ (some 36) rfl rfl Tryd.func39 (by kernel_rfl) rfl #[.slice Ao20 t228.length co20, .string a1] rfl (by (try simp only [List.map_toArray, List.map_cons, List.map_nil]); first | done | rfl | (simp only [List.length_drop, List.length_take]; rfl)) ?_; (with_reducible refine (impl_ParseFact.calls k _ _ t228 a1 t231 t232 t235 _ ?side1 ?side2 A10.out (hp_.on (by repeat (first | (with_reducible first | exact HB.out | apply below_alloc | apply pw_below_drewN | apply below_drew1 | refine below_set ?_ GE227.out | refine below_set ?_ GE236.out | refine below_set ?_ GE256.out) | exact HB.out)))).mono ?_); (case side1 => repeat (first | exact (Kd.R_reads' HO230.out).2.2 | (with_reducible refine Kd.C_alloc ?_ _) | (with_reducible refine Kd.C_drewN ?_ _) | (with_reducible refine Kd.C_drew ?_))); (case side2 => exact (Kd.R_reads' HO230.out).2.1); rintro e w21 ⟨v233, rfl, ho0, hb⟩; refine ⟨_, rfl, ?_⟩; have n0_ := aM (Kd.R_below (aR HO221) hb); have n1_ := aM (Kd.R_elder' (aR HO225) (Kd.R_base ho0) hb); have n2_ := aM (Kd.R_below (aR HO230) hb); have n3_ := aM (Kd.R_lower (Kd.R_new' ho0 (Kd.R_lt (aR HO225))) (below_size aG)); have n4_ := aM (blk_below (g := gb227) (o := .cells #[.int .i64 t222, .slice Ao18 t223.length co18] 52 (0, 0)) aK hb); have n5_ := aM (below_step aG hb); clear HO221; clear HO225; clear HO230; clear BK227; clear HB; have HO221 := n0_; have HO225 := n1_; have HO230 := n2_; have HO234 := n3_; have BK227 := n4_; have HB := n5_; clear n0_ n1_ n2_ n3_ n4_ n5_; (try clear hb); (try clear hb2); (try clear hk); (try clear hi); (try clear ho0)) | ((with_reducible refine gate_dst (N := 9) rfl ?_); refine box_event ?hg (N := 9) ?hd (cs := #[.int .i64 0, .slice none 0 0]) (t := 52) ?hr ?_; (case hd => rfl); (case hg => rfl); (case hr => first | (go_simp; done) | (go_simp; rfl)); intro gb236 hg w22 hbox hb; have n0_ := aM (Kd.R_below (aR HO221) hb); have n1_ := aM (Kd.R_below (aR HO225) hb); have n2_ := aM (Kd.R_below (aR HO230) hb); have n3_ := aM (Kd.R_below (aR HO234) hb); have n4_ := aM (blk_below (g := gb227) (o := .cells #[.int .i64 t222, .slice Ao18 t223.length co18] 52 (0, 0)) aK hb); have n5_ := aM (below_step aG hb); have n6_ := aM (hbox); have n7_ := aM ((by rw [hg]; exact (below_size aG) : w.heap.size ≤ gb236)); have n8_ := aM ((by rw [hg]; exact (below_size aG) : w.heap.size ≤ gb236)); have n9_ := aM ((by rw [hg]; exact Nat.ne_of_lt (blk_lt (g := gb227) (o := .cells #[.int .i64 t222, .slice Ao18 t223.length co18] 52 (0, 0)) aK) : gb227 ≠ gb236)); have n10_ := aM ((by rw [hg]; exact Nat.ne_of_gt (blk_lt (g := gb227) (o := .cells #[.int .i64 t222, .slice Ao18 t223.length co18] 52 (0, 0)) aK) : gb236 ≠ gb227)); clear HO221; clear HO225; clear HO230; clear HO234; clear BK227; clear HB; have HO221 := n0_; have HO225 := n1_; have HO230 := n2_; have HO234 := n3_; have BK227 := n4_; have HB := n5_; have BK236 := n6_; have GW236 := n7_; have GE236 := n8_; have NB227_236 := n9_; have NB236_227 := n10_; clear n0_ n1_ n2_ n3_ n4_ n5_ n6_ n7_ n8_ n9_ n10_; clear hb hbox hg; have hnb23 := NB236_227.out; have hnc23 := NB227_236.out; have hcz24_0 : w22.cell? ⟨gb236, 0, none⟩ = some (.int .i64 0) := (blk_cell BK236.out 0).trans rfl; have hcz24_1 : w22.cell? ⟨gb236, 1, none⟩ = some (.slice none 0 0) := (blk_cell BK236.out 1).trans rfl; have hfz24_0 := blk_frozen BK236.out 0; have hfz24_1 := blk_frozen BK236.out 1; obtain ⟨Ao25, co25, eo25⟩ := Kd.R_slice HO234.out; subst eo25))
   (try simp only [Act.put, List.setIfInBounds_toArray, List.set_cons_zero, List.set_cons_succ])
   go_cut [47] (fun v47 wc => ∃ (kq : Nat) (x47_10 : Bool), v47 = .bool x47_10 ∧ Aside0 (laws_FnExactParseFact.j0 kq l0 a1 t226 t228 t235 x47_10 t222 t223 t231 t232 = some r) ∧ Aside0 (kq ≤ k) ∧ Aside0 (Kd.R k28 28 wc w.heap.size (fun _ => True) (.slice Ao20 t228.length co20) t228) ∧ Aside0 (Kd.R (Kd.int .i64) 3 wc w.heap.size (fun k_ => some k_ ≠ ((.slice Ao25 t232.length co25) : Value).ownBlock) (.slice Ao18 t223.length co18) t223) ∧ Aside0 (Kd.R (Kd.int .i64) 3 wc w.heap.size (fun k_ => some k_ ≠ ((.slice Ao18 t223.length co18) : Value).ownBlock) (.slice Ao25 t232.length co25) t232) ∧ Aside0 (wc.heap[gb227]? = some (.cells #[.int .i64 t222, (.slice Ao18 t223.length co18)] 52 (0, 0))) ∧ Aside0 (wc.heap[gb236]? = some (.cells #[.int .i64 t231, (.slice Ao25 t232.length co25)] 52 (0, 0))) ∧ Aside0 (Below w.heap.size w wc))
   case first =>
    have H := HC11.out
    clear HC11
    replace H := Option.bind_eq_some_iff.mp H
    obtain ⟨t237, A260, H⟩ := H
    replace H : (if t237 = true then (laws_FnExactParseFact.j0 k l0 a1 t226 t228 t235 (t235 != t226) t222 t223 t231 t232) else (laws_FnExactParseFact.j0 k l0 a1 t226 t228 t235 true t222 t223 t231 t232)) = some r := H
    have A26 := aM A260
    clear A260
    by_cases c27 : t237 = true
    ·subst c27
     have H1 : (laws_FnExactParseFact.j0 k l0 a1 t226 t228 t235 (t235 != t226) t222 t223 t231 t232) = some r := by rw [if_pos rfl] at H; exact H
     clear H
     have H := H1
     clear H1
     have H' := aM H
     clear H
     have hnb28 := NB236_227.out
     have hnc28 := NB227_236.out
     have hcz29_0 : w22.cell? ⟨gb236, 0, none⟩ = some (.int .i64 0) := (blk_cell BK236.out 0).trans rfl
     have hcz29_1 : w22.cell? ⟨gb236, 1, none⟩ = some (.slice none 0 0) := (blk_cell BK236.out 1).trans rfl
     have hfz29_0 := blk_frozen BK236.out 0
     have hfz29_1 := blk_frozen BK236.out 1
     have hcz30_0 : w22.cell? ⟨gb227, 0, none⟩ = some (.int .i64 t222) := (blk_cell BK227.out 0).trans rfl
     have hcz30_1 : w22.cell? ⟨gb227, 1, none⟩ = some (.slice Ao18 t223.length co18) := (blk_cell BK227.out 1).trans rfl
     have hfz30_0 := blk_frozen BK227.out 0
     have hfz30_1 := blk_frozen BK227.out 1
     go_wp2_with (first | ((with_reducible refine gate_callee (f := 35) rfl ?_); refine goesL_ (some 41) rfl rfl Tryd.func35 (by kernel_rfl) rfl #[.agg #[.int .i64 t231, .slice Ao25 t232.length co25], .agg #[.int .i64 t222, .slice Ao18 t223.length co18]] rfl (by (try simp only [List.map_toArray, List.map_cons, List.map_nil]); first | done | rfl | (simp only [List.length_drop, List.length_take]; rfl)) ?_; (with_reducible refine (laws_eqFact.calls k t231 _ _ t232 t222 _ _ t223 true _ ?side1 ?side2 ?side3 ?side4 A26.out).mono ?_); (case side1 => refine (Kd.R_reads' (e := 3) (base := w.heap.size) (ok := fun k_ => (True ∧ some k_ ≠ (.slice Ao18 t223.length co18 : Value).ownBlock)) (n := t232.length) (c := co25) ?_).2.2; exact (by (with_reducible repeat (first | apply Kd.R_alloc | apply Kd.R_drewN | apply Kd.R_drew)); exact (Kd.R_mono (Kd.R_far (p := ⟨gb236, 1, none⟩) (Kd.R_far (p := ⟨gb236, 0, none⟩) (Kd.R_types HO234.out BK236.out (by decide)) (fun _ hk => hk.2) (.int .i64 t231)) (fun _ hk => hk.2) (.slice Ao25 t232.length co25)) (fun _ h_ => h_.1)))); (case side2 => exact (Kd.R_reads' HO234.out).2.1); (case side3 => refine (Kd.R_reads' (e := 3) (base := w.heap.size) (ok := fun k_ => (True ∧ some k_ ≠ (.slice Ao25 t232.length co25 : Value).ownBlock)) (n := t223.length) (c := co18) ?_).2.2; exact (by (with_reducible repeat (first | apply Kd.R_alloc | apply Kd.R_drewN | apply Kd.R_drew)); exact (Kd.R_mono (Kd.R_far (p := ⟨gb236, 1, none⟩) (Kd.R_far (p := ⟨gb236, 0, none⟩) (Kd.R_types HO225.out BK236.out (by decide)) (fun _ hk => hk.2) (.int .i64 t231)) (fun _ hk => hk.2) (.slice Ao25 t232.length co25)) (fun _ h_ => h_.1)))); (case side4 => exact (Kd.R_reads' HO225.out).2.1); rintro e w31 ⟨rfl, hb⟩; refine ⟨_, rfl, ?_⟩; have n0_ := aM (Kd.R_below (by (with_reducible repeat (first | apply Kd.R_alloc | apply Kd.R_drewN | apply Kd.R_drew)); exact (Kd.R_mono (Kd.R_far (p := ⟨gb236, 1, none⟩) (Kd.R_far (p := ⟨gb236, 0, none⟩) (Kd.R_types HO221.out BK236.out (by decide)) (fun _ hk => hk.2) (.int .i64 t231)) (fun _ hk => hk.2) (.slice Ao25 t232.length co25)) (fun _ h_ => h_.1))) hb); have n1_ := aM (Kd.R_below (by (with_reducible repeat (first | apply Kd.R_alloc | apply Kd.R_drewN | apply Kd.R_drew)); exact (Kd.R_mono (Kd.R_far (p := ⟨gb236, 1, none⟩) (Kd.R_far (p := ⟨gb236, 0, none⟩) (Kd.R_types HO225.out BK236.out (by decide)) (fun _ hk => hk.2) (.int .i64 t231)) (fun _ hk => hk.2) (.slice Ao25 t232.length co25)) (fun _ h_ => h_.1))) hb); have n2_ := aM (Kd.R_below (by (with_reducible repeat (first | apply Kd.R_alloc | apply Kd.R_drewN | apply Kd.R_drew)); exact (Kd.R_mono (Kd.R_far (p := ⟨gb236, 1, none⟩) (Kd.R_far (p := ⟨gb236, 0, none⟩) (Kd.R_types HO230.out BK236.out (by decide)) (fun _ hk => hk.2) (.int .i64 t231)) (fun _ hk => hk.2) (.slice Ao25 t232.length co25)) (fun _ h_ => h_.1))) hb); have n3_ := aM (Kd.R_below (by (with_reducible repeat (first | apply Kd.R_alloc | apply Kd.R_drewN | apply Kd.R_drew)); exact (Kd.R_mono (Kd.R_far (p := ⟨gb236, 1, none⟩) (Kd.R_far (p := ⟨gb236, 0, none⟩) (Kd.R_types HO234.out BK236.out (by decide)) (fun _ hk => hk.2) (.int .i64 t231)) (fun _ hk => hk.2) (.slice Ao25 t232.length co25)) (fun _ h_ => h_.1))) hb); have n4_ := aM (blk_below (g := gb227) (o := .cells #[.int .i64 t222, .slice Ao18 t223.length co18] 52 (0, 0)) (by (with_reducible repeat (first | refine blk_drewN ?_ _ | refine blk_drew ?_ | refine blk_alloc ?_ _)); refine blk_far ?_ NB227_236.out _; (with_reducible repeat (first | refine blk_drewN ?_ _ | refine blk_drew ?_ | refine blk_alloc ?_ _)); refine blk_far ?_ NB227_236.out _; (with_reducible repeat (first | refine blk_drewN ?_ _ | refine blk_drew ?_ | refine blk_alloc ?_ _)); exact BK227.out) hb); have n5_ := aM (blk_below (g := gb236) (o := .cells #[.int .i64 t231, .slice Ao25 t232.length co25] 52 (0, 0)) (by (with_reducible repeat (first | refine blk_drewN ?_ _ | refine blk_drew ?_ | refine blk_alloc ?_ _)); refine blk_put (cs := #[.int .i64 t231, .slice none 0 0]) ?_ 1 _ rfl; (with_reducible repeat (first | refine blk_drewN ?_ _ | refine blk_drew ?_ | refine blk_alloc ?_ _)); refine blk_put (cs := #[.int .i64 0, .slice none 0 0]) ?_ 0 _ rfl; (with_reducible repeat (first | refine blk_drewN ?_ _ | refine blk_drew ?_ | refine blk_alloc ?_ _)); exact BK236.out) hb); have n6_ := aM (below_step aG hb); clear HO221; clear HO225; clear HO230; clear HO234; clear BK227; clear BK236; clear HB; have HO221 := n0_; have HO225 := n1_; have HO230 := n2_; have HO234 := n3_; have BK227 := n4_; have BK236 := n5_; have HB := n6_; clear n0_ n1_ n2_ n3_ n4_ n5_ n6_; (try clear hb); (try clear hb2); (try clear hk); (try clear hi)))
     go_meet
     case rel => exact ⟨_, ((t235 != t226)), (by first | rfl | (simp; done) | (simp [*]; done)), H', ⟨by first | omega | exact Nat.le_refl _⟩, ⟨by (with_reducible repeat (first | apply Kd.R_alloc | apply Kd.R_drewN | apply Kd.R_drew)); exact Kd.R_mono HO230.out (fun _ hk => trivial)⟩, ⟨by (with_reducible repeat (first | apply Kd.R_alloc | apply Kd.R_drewN | apply Kd.R_drew)); exact Kd.R_mono HO225.out (fun _ hk => hk.2)⟩, ⟨by (with_reducible repeat (first | apply Kd.R_alloc | apply Kd.R_drewN | apply Kd.R_drew)); exact Kd.R_mono HO234.out (fun _ hk => hk.2)⟩, ⟨by (with_reducible repeat (first | refine blk_drewN ?_ _ | refine blk_drew ?_ | refine blk_alloc ?_ _)); exact BK227.out⟩, ⟨by (with_reducible repeat (first | refine blk_drewN ?_ _ | refine blk_drew ?_ | refine blk_alloc ?_ _)); exact BK236.out⟩, ⟨by repeat (first | (with_reducible first | exact HB.out | apply below_alloc | apply pw_below_drewN | apply below_drew1 | refine below_set ?_ GE227.out | refine below_set ?_ GE236.out) | exact HB.out)⟩⟩
    ·replace c27 := Bool.eq_false_iff.mpr c27
     subst c27
     have H1 : (laws_FnExactParseFact.j0 k l0 a1 t226 t228 t235 true t222 t223 t231 t232) = some r := by rw [if_neg (show ¬ (false = true) by decide)] at H; exact H
     clear H
     have H := H1
     clear H1
     have H' := aM H
     clear H
     have hnb32 := NB236_227.out
     have hnc32 := NB227_236.out
     have hcz33_0 : w22.cell? ⟨gb236, 0, none⟩ = some (.int .i64 0) := (blk_cell BK236.out 0).trans rfl
     have hcz33_1 : w22.cell? ⟨gb236, 1, none⟩ = some (.slice none 0 0) := (blk_cell BK236.out 1).trans rfl
     have hfz33_0 := blk_frozen BK236.out 0
     have hfz33_1 := blk_frozen BK236.out 1
     have hcz34_0 : w22.cell? ⟨gb227, 0, none⟩ = some (.int .i64 t222) := (blk_cell BK227.out 0).trans rfl
     have hcz34_1 : w22.cell? ⟨gb227, 1, none⟩ = some (.slice Ao18 t223.length co18) := (blk_cell BK227.out 1).trans rfl
     have hfz34_0 := blk_frozen BK227.out 0
     have hfz34_1 := blk_frozen BK227.out 1
     go_wp2_with (first | ((with_reducible refine gate_callee (f := 35) rfl ?_); refine goesL_ (some 41) rfl rfl Tryd.func35 (by kernel_rfl) rfl #[.agg #[.int .i64 t231, .slice Ao25 t232.length co25], .agg #[.int .i64 t222, .slice Ao18 t223.length co18]] rfl (by (try simp only [List.map_toArray, List.map_cons, List.map_nil]); first | done | rfl | (simp only [List.length_drop, List.length_take]; rfl)) ?_; (with_reducible refine (laws_eqFact.calls k t231 _ _ t232 t222 _ _ t223 false _ ?side1 ?side2 ?side3 ?side4 A26.out).mono ?_); (case side1 => refine (Kd.R_reads' (e := 3) (base := w.heap.size) (ok := fun k_ => (True ∧ some k_ ≠ (.slice Ao18 t223.length co18 : Value).ownBlock)) (n := t232.length) (c := co25) ?_).2.2; exact (by (with_reducible repeat (first | apply Kd.R_alloc | apply Kd.R_drewN | apply Kd.R_drew)); exact (Kd.R_mono (Kd.R_far (p := ⟨gb236, 1, none⟩) (Kd.R_far (p := ⟨gb236, 0, none⟩) (Kd.R_types HO234.out BK236.out (by decide)) (fun _ hk => hk.2) (.int .i64 t231)) (fun _ hk => hk.2) (.slice Ao25 t232.length co25)) (fun _ h_ => h_.1)))); (case side2 => exact (Kd.R_reads' HO234.out).2.1); (case side3 => refine (Kd.R_reads' (e := 3) (base := w.heap.size) (ok := fun k_ => (True ∧ some k_ ≠ (.slice Ao25 t232.length co25 : Value).ownBlock)) (n := t223.length) (c := co18) ?_).2.2; exact (by (with_reducible repeat (first | apply Kd.R_alloc | apply Kd.R_drewN | apply Kd.R_drew)); exact (Kd.R_mono (Kd.R_far (p := ⟨gb236, 1, none⟩) (Kd.R_far (p := ⟨gb236, 0, none⟩) (Kd.R_types HO225.out BK236.out (by decide)) (fun _ hk => hk.2) (.int .i64 t231)) (fun _ hk => hk.2) (.slice Ao25 t232.length co25)) (fun _ h_ => h_.1)))); (case side4 => exact (Kd.R_reads' HO225.out).2.1); rintro e w35 ⟨rfl, hb⟩; refine ⟨_, rfl, ?_⟩; have n0_ := aM (Kd.R_below (by (with_reducible repeat (first | apply Kd.R_alloc | apply Kd.R_drewN | apply Kd.R_drew)); exact (Kd.R_mono (Kd.R_far (p := ⟨gb236, 1, none⟩) (Kd.R_far (p := ⟨gb236, 0, none⟩) (Kd.R_types HO221.out BK236.out (by decide)) (fun _ hk => hk.2) (.int .i64 t231)) (fun _ hk => hk.2) (.slice Ao25 t232.length co25)) (fun _ h_ => h_.1))) hb); have n1_ := aM (Kd.R_below (by (with_reducible repeat (first | apply Kd.R_alloc | apply Kd.R_drewN | apply Kd.R_drew)); exact (Kd.R_mono (Kd.R_far (p := ⟨gb236, 1, none⟩) (Kd.R_far (p := ⟨gb236, 0, none⟩) (Kd.R_types HO225.out BK236.out (by decide)) (fun _ hk => hk.2) (.int .i64 t231)) (fun _ hk => hk.2) (.slice Ao25 t232.length co25)) (fun _ h_ => h_.1))) hb); have n2_ := aM (Kd.R_below (by (with_reducible repeat (first | apply Kd.R_alloc | apply Kd.R_drewN | apply Kd.R_drew)); exact (Kd.R_mono (Kd.R_far (p := ⟨gb236, 1, none⟩) (Kd.R_far (p := ⟨gb236, 0, none⟩) (Kd.R_types HO230.out BK236.out (by decide)) (fun _ hk => hk.2) (.int .i64 t231)) (fun _ hk => hk.2) (.slice Ao25 t232.length co25)) (fun _ h_ => h_.1))) hb); have n3_ := aM (Kd.R_below (by (with_reducible repeat (first | apply Kd.R_alloc | apply Kd.R_drewN | apply Kd.R_drew)); exact (Kd.R_mono (Kd.R_far (p := ⟨gb236, 1, none⟩) (Kd.R_far (p := ⟨gb236, 0, none⟩) (Kd.R_types HO234.out BK236.out (by decide)) (fun _ hk => hk.2) (.int .i64 t231)) (fun _ hk => hk.2) (.slice Ao25 t232.length co25)) (fun _ h_ => h_.1))) hb); have n4_ := aM (blk_below (g := gb227) (o := .cells #[.int .i64 t222, .slice Ao18 t223.length co18] 52 (0, 0)) (by (with_reducible repeat (first | refine blk_drewN ?_ _ | refine blk_drew ?_ | refine blk_alloc ?_ _)); refine blk_far ?_ NB227_236.out _; (with_reducible repeat (first | refine blk_drewN ?_ _ | refine blk_drew ?_ | refine blk_alloc ?_ _)); refine blk_far ?_ NB227_236.out _; (with_reducible repeat (first | refine blk_drewN ?_ _ | refine blk_drew ?_ | refine blk_alloc ?_ _)); exact BK227.out) hb); have n5_ := aM (blk_below (g := gb236) (o := .cells #[.int .i64 t231, .slice Ao25 t232.length co25] 52 (0, 0)) (by (with_reducible repeat (first | refine blk_drewN ?_ _ | refine blk_drew ?_ | refine blk_alloc ?_ _)); refine blk_put (cs := #[.int .i64 t231, .slice none 0 0]) ?_ 1 _ rfl; (with_reducible repeat (first | refine blk_drewN ?_ _ | refine blk_drew ?_ | refine blk_alloc ?_ _)); refine blk_put (cs := #[.int .i64 0, .slice none 0 0]) ?_ 0 _ rfl; (with_reducible repeat (first | refine blk_drewN ?_ _ | refine blk_drew ?_ | refine blk_alloc ?_ _)); exact BK236.out) hb); have n6_ := aM (below_step aG hb); clear HO221; clear HO225; clear HO230; clear HO234; clear BK227; clear BK236; clear HB; have HO221 := n0_; have HO225 := n1_; have HO230 := n2_; have HO234 := n3_; have BK227 := n4_; have BK236 := n5_; have HB := n6_; clear n0_ n1_ n2_ n3_ n4_ n5_ n6_; (try clear hb); (try clear hb2); (try clear hk); (try clear hi)))
     go_meet
     case rel => exact ⟨_, (true), (by first | rfl | (simp; done) | (simp [*]; done)), H', ⟨by first | omega | exact Nat.le_refl _⟩, ⟨by (with_reducible repeat (first | apply Kd.R_alloc | apply Kd.R_drewN | apply Kd.R_drew)); exact Kd.R_mono HO230.out (fun _ hk => trivial)⟩, ⟨by (with_reducible repeat (first | apply Kd.R_alloc | apply Kd.R_drewN | apply Kd.R_drew)); exact Kd.R_mono HO225.out (fun _ hk => hk.2)⟩, ⟨by (with_reducible repeat (first | apply Kd.R_alloc | apply Kd.R_drewN | apply Kd.R_drew)); exact Kd.R_mono HO234.out (fun _ hk => hk.2)⟩, ⟨by (with_reducible repeat (first | refine blk_drewN ?_ _ | refine blk_drew ?_ | refine blk_alloc ?_ _)); exact BK227.out⟩, ⟨by (with_reducible repeat (first | refine blk_drewN ?_ _ | refine blk_drew ?_ | refine blk_alloc ?_ _)); exact BK236.out⟩, ⟨by repeat (first | (with_reducible first | exact HB.out | apply below_alloc | apply pw_below_drewN | apply below_drew1 | refine below_set ?_ GE227.out | refine below_set ?_ GE236.out) | exact HB.out)⟩⟩
   case rest =>
    clear HC11
    try clear c2
    try clear p2
    try clear c3
    try clear c3b0
    try clear c3b1
    try clear c5
    try clear c5b0
    try clear c9
    try clear c23
    try clear c27
    try clear c28
    try clear c31
    try clear c32
    try clear c35
    try clear hcz17_0
    try clear hcz17_1
    try clear hcz24_0
    try clear hcz24_1
    try clear hcz29_0
    try clear hcz29_1
    try clear hcz30_0
    try clear hcz30_1
    try clear hcz33_0
    try clear hcz33_1
    try clear hcz34_0
    try clear hcz34_1
    try clear hfz17_0
    try clear hfz17_1
    try clear hfz24_0
    try clear hfz24_1
    try clear hfz29_0
    try clear hfz29_1
    try clear hfz30_0
    try clear hfz30_1
    try clear hfz33_0
    try clear hfz33_1
    try clear hfz34_0
    try clear hfz34_1
    obtain ⟨kq, x47_10, rfl, HA, HJ10, HO_8, HO_228001, HO_237001, BK227, BK236, HB⟩ := hcut
    cases kq with
    | zero => exact absurd HA.out (by simp [laws_FnExactParseFact.j0])
    | succ kj10 =>
     have H := HA.out
     clear HA
     simp only [laws_FnExactParseFact.j0] at H
     by_cases c36 : x47_10 = true
     ·subst c36
      have H1 : (some false) = some r := by rw [if_pos rfl] at H; exact H
      clear H
      have H := H1
      clear H1
      exact absurd (Option.some.inj (H.trans (congrArg some HRT_.out))) (by decide)
     ·replace c36 := Bool.eq_false_iff.mpr c36
      subst c36
      have H1 : ((laws_toRelationS.f kj10 l0).bind fun t238 => ((laws_eqRelationS.f kj10 t228 t238).bind fun t241 => (if t241 = true then ((laws_markRelationS.f kj10 t228 1).bind fun bt242 => (if bt242.1 < 0 then (laws_FnExactParseFact.j1 kj10 l0 a1 t226 true t222 t223 t231 t232) else ((laws_eqFact.f kj10 t231 t232 t222 t223).bind fun t244 => (if t244 = true then (laws_FnExactParseFact.j1 kj10 l0 a1 t226 (t235 != t226) t222 t223 t231 t232) else (laws_FnExactParseFact.j1 kj10 l0 a1 t226 true t222 t223 t231 t232))))) else (some false)))) = some r := by rw [if_neg (show ¬ (false = true) by decide)] at H; exact H
      clear H
      have H := H1
      clear H1
      replace H := Option.bind_eq_some_iff.mp H
      obtain ⟨t238, A370, H⟩ := H
      replace H : ((laws_eqRelationS.f kj10 t228 t238).bind fun t241 => (if t241 = true then ((laws_markRelationS.f kj10 t228 1).bind fun bt242 => (if bt242.1 < 0 then (laws_FnExactParseFact.j1 kj10 l0 a1 t226 true t222 t223 t231 t232) else ((laws_eqFact.f kj10 t231 t232 t222 t223).bind fun t244 => (if t244 = true then (laws_FnExactParseFact.j1 kj10 l0 a1 t226 (t235 != t226) t222 t223 t231 t232) else (laws_FnExactParseFact.j1 kj10 l0 a1 t226 true t222 t223 t231 t232))))) else (some false))) = some r := H
      have A37 := aM A370
      clear A370
      replace H := Option.bind_eq_some_iff.mp H
      obtain ⟨t241, A380, H⟩ := H
      replace H : (if t241 = true then ((laws_markRelationS.f kj10 t228 1).bind fun bt242 => (if bt242.1 < 0 then (laws_FnExactParseFact.j1 kj10 l0 a1 t226 true t222 t223 t231 t232) else ((laws_eqFact.f kj10 t231 t232 t222 t223).bind fun t244 => (if t244 = true then (laws_FnExactParseFact.j1 kj10 l0 a1 t226 (t235 != t226) t222 t223 t231 t232) else (laws_FnExactParseFact.j1 kj10 l0 a1 t226 true t222 t223 t231 t232))))) else (some false)) = some r := H
      have A38 := aM A380
      clear A380
      by_cases c39 : t241 = true
      ·subst c39
       have H1 : ((laws_markRelationS.f kj10 t228 1).bind fun bt242 => (if bt242.1 < 0 then (laws_FnExactParseFact.j1 kj10 l0 a1 t226 true t222 t223 t231 t232) else ((laws_eqFact.f kj10 t231 t232 t222 t223).bind fun t244 => (if t244 = true then (laws_FnExactParseFact.j1 kj10 l0 a1 t226 (t235 != t226) t222 t223 t231 t232) else (laws_FnExactParseFact.j1 kj10 l0 a1 t226 true t222 t223 t231 t232))))) = some r := by rw [if_pos rfl] at H; exact H
       clear H
       have H := H1
       clear H1
       replace H := Option.bind_eq_some_iff.mp H
       obtain ⟨⟨t242, t243⟩, A400, H⟩ := H
       replace H : (if t242 < 0 then (laws_FnExactParseFact.j1 kj10 l0 a1 t226 true t222 t223 t231 t232) else ((laws_eqFact.f kj10 t231 t232 t222 t223).bind fun t244 => (if t244 = true then (laws_FnExactParseFact.j1 kj10 l0 a1 t226 (t235 != t226) t222 t223 t231 t232) else (laws_FnExactParseFact.j1 kj10 l0 a1 t226 true t222 t223 t231 t232)))) = some r := H
       have A40 := aM A400
       clear A400
       have HC41 := aM H
       clear H
       go_upto_region 16 with (first | ((with_reducible refine gate_callee (f := 31) rfl ?_); refine goesL_ (some 50) rfl rfl Tryd.func31 (by kernel_rfl) rfl #[.slice A0 l0.length c0] rfl (by (try simp only [List.map_toArray, List.map_cons, List.map_nil]); first | done | rfl | (simp only [List.length_drop, List.length_take]; rfl)) ?_; (with_reducible refine (laws_toRelationS.calls kj10 _ _ l0 t238 _ ?side1 ?side2 A37.out).mono ?_); (case side1 => exact aC); (case side2 => exact HC0.out); rintro e w42 ⟨v239, rfl, ho0, hb⟩; refine ⟨_, rfl, ?_⟩; have n0_ := aM (Kd.R_elder' (aR HO_8) (Kd.R_base ho0) hb); have n1_ := aM (Kd.R_below (aR HO_228001) hb); have n2_ := aM (Kd.R_below (aR HO_237001) hb); have n3_ := aM (Kd.R_lower (Kd.R_new' ho0 (Kd.R_lt (aR HO_8))) (below_size aG)); have n4_ := aM (blk_below (g := gb227) (o := .cells #[.int .i64 t222, .slice Ao18 t223.length co18] 52 (0, 0)) aK hb); have n5_ := aM (blk_below (g := gb236) (o := .cells #[.int .i64 t231, .slice Ao25 t232.length co25] 52 (0, 0)) aK hb); have n6_ := aM (below_step aG hb); clear HO_8; clear HO_228001; clear HO_237001; clear BK227; clear BK236; clear HB; have HO_8 := n0_; have HO_228001 := n1_; have HO_237001 := n2_; have HO240 := n3_; have BK227 := n4_; have BK236 := n5_; have HB := n6_; clear n0_ n1_ n2_ n3_ n4_ n5_ n6_; (try clear hb); (try clear hb2); (try clear hk); (try clear hi); (try clear ho0); obtain ⟨Ao43, co43, eo43⟩ := Kd.R_slice HO240.out; subst eo43) | ((with_reducible refine gate_callee (f := 34) rfl ?_); refine goesL_ (some 51) rfl rfl Tryd.func34 (by kernel_rfl) rfl #[.slice Ao20 t228.length co20, .slice Ao43 t238.length co43] rfl (by (try simp only [List.map_toArray, List.map_cons, List.map_nil]); first | done | rfl | (simp only [List.length_drop, List.length_take]; rfl)) ?_; (with_reducible refine (laws_eqRelationS.calls kj10 _ _ t228 _ _ t238 true _ ?side1 ?side2 ?side3 ?side4 A38.out).mono ?_); (case side1 => repeat (first | exact (Kd.R_reads' HO_8.out).2.2 | (with_reducible refine Kd.C_alloc ?_ _) | (with_reducible refine Kd.C_drewN ?_ _) | (with_reducible refine Kd.C_drew ?_))); (case side2 => exact (Kd.R_reads' HO_8.out).2.1); (case side3 => repeat (first | exact (Kd.R_reads' HO240.out).2.2 | (with_reducible refine Kd.C_alloc ?_ _) | (with_reducible refine Kd.C_drewN ?_ _) | (with_reducible refine Kd.C_drew ?_))); (case side4 => exact (Kd.R_reads' HO240.out).2.1); rintro e w44 ⟨rfl, hb⟩; refine ⟨_, rfl, ?_⟩; have n0_ := aM (Kd.R_below (aR HO_8) hb); have n1_ := aM (Kd.R_below (aR HO_228001) hb); have n2_ := aM (Kd.R_below (aR HO_237001) hb); have n3_ := aM (Kd.R_below (aR HO240) hb); have n4_ := aM (blk_below (g := gb227) (o := .cells #[.int .i64 t222, .slice Ao18 t223.length co18] 52 (0, 0)) aK hb); have n5_ := aM (blk_below (g := gb236) (o := .cells #[.int .i64 t231, .slice Ao25 t232.length co25] 52 (0, 0)) aK hb); have n6_ := aM (below_step aG hb); clear HO_8; clear HO_228001; clear HO_237001; clear HO240; clear BK227; clear BK236; clear HB; have HO_8 := n0_; have HO_228001 := n1_; have HO_237001 := n2_; have HO240 := n3_; have BK227 := n4_; have BK236 := n5_; have HB := n6_; clear n0_ n1_ n2_ n3_ n4_ n5_ n6_; (try clear hb); (try clear hb2); (try clear hk); (try clear hi)) | ((with_reducible refine gate_callee (f := 40) rfl ?_); refine goesL_ (some 55) rfl rfl Tryd.func40 (by kernel_rfl) rfl #[.slice Ao20 t228.length co20, .int .i64 1] rfl (by (try simp only [List.map_toArray, List.map_cons, List.map_nil]); first | done | rfl | (simp only [List.length_drop, List.length_take]; rfl)) ?_; (with_reducible refine (laws_markRelationS.calls kj10 (fun k_ => some k_ = (.slice Ao20 t228.length co20 : Value).ownBlock) (.slice Ao20 t228.length co20) t228 1 t242 t243 w _ ?side1 ?side2 A40.out).mono ?_); (case side1 => repeat (first | (with_reducible first | exact HB.out | apply below_alloc | apply pw_below_drewN | apply below_drew1 | refine below_set ?_ GE227.out | refine below_set ?_ GE236.out) | exact HB.out)); (case side2 => exact Kd.R_tight rfl HO_8.out); rintro e w45 ⟨rfl, hy0, hb, hkp⟩; refine ⟨_, rfl, ?_⟩; have n0_ := aM (Kd.R_reok rfl hy0 (fun k_ e_ => HO_8.out.1 k_ e_)); have n1_ := aM (Kd.R_mono (ok' := fun k_ => some k_ ≠ (.slice Ao25 t232.length co25 : Value).ownBlock) (Kd.R_keptB ((Kd.R_apart' HO_228001.out (Kd.R_typed HO_8.out) (by decide))) hkp (fun k_ hk_ hs_ => (hk_.2) hs_)) (fun k_ hk_ => hk_.1.1)); have n2_ := aM (Kd.R_mono (ok' := fun k_ => some k_ ≠ (.slice Ao18 t223.length co18 : Value).ownBlock) (Kd.R_keptB ((Kd.R_apart' HO_237001.out (Kd.R_typed HO_8.out) (by decide))) hkp (fun k_ hk_ hs_ => (hk_.2) hs_)) (fun k_ hk_ => hk_.1.1)); have n3_ := aM (blk_kept aK hkp (fun hs_ => (fun e_ => (Kd.R_ne HO_8.out BK227.out (by decide)) e_) hs_)); have n4_ := aM (blk_kept aK hkp (fun hs_ => (fun e_ => (Kd.R_ne HO_8.out BK236.out (by decide)) e_) hs_)); have n5_ := aM (Kd.R_mono (ok' := fun k_ => some k_ ≠ (.slice Ao20 t228.length co20 : Value).ownBlock) (Kd.R_keptB (HO240.out) hkp (fun k_ hk_ hs_ => (hk_.2) hs_)) (fun k_ hk_ => hk_.1.2)); have n6_ := aM (hb); clear HO_8; clear HO_228001; clear HO_237001; clear BK227; clear BK236; clear HO240; clear HB; have HO_8 := n0_; have HO_228001 := n1_; have HO_237001 := n2_; have BK227 := n3_; have BK236 := n4_; have HO240 := n5_; have HB := n6_; clear n0_ n1_ n2_ n3_ n4_ n5_ n6_; (try clear hb); (try clear hkp); (try clear hy0)))
       (try simp only [Act.put, List.setIfInBounds_toArray, List.set_cons_zero, List.set_cons_succ])
       go_cut [68] (fun v68 wc => ∃ (kq : Nat) (x68_40 : Bool), v68 = .bool x68_40 ∧ Aside0 (laws_FnExactParseFact.j1 kq l0 a1 t226 x68_40 t222 t223 t231 t232 = some r) ∧ Aside0 (kq ≤ kj10) ∧ Aside0 (Kd.R (Kd.int .i64) 3 wc w.heap.size (fun k_ => some k_ ≠ ((.slice Ao25 t232.length co25) : Value).ownBlock) (.slice Ao18 t223.length co18) t223) ∧ Aside0 (Kd.R (Kd.int .i64) 3 wc w.heap.size (fun k_ => some k_ ≠ ((.slice Ao18 t223.length co18) : Value).ownBlock) (.slice Ao25 t232.length co25) t232) ∧ Aside0 (wc.heap[gb227]? = some (.cells #[.int .i64 t222, (.slice Ao18 t223.length co18)] 52 (0, 0))) ∧ Aside0 (wc.heap[gb236]? = some (.cells #[.int .i64 t231, (.slice Ao25 t232.length co25)] 52 (0, 0))) ∧ Aside0 (Below w.heap.size w wc))
       case first =>
        have H := HC41.out
        clear HC41
        by_cases c46 : t242 < 0
        ·rw [if_pos c46] at H
         have c46b0 : decide (t242 < 0) = true := decide_eq_true c46
         clear c46
         (first | rw [c46b0] | (simp only [i64_w, i32_w]; rw [c46b0]) | skip)
         have H' := aM H
         clear H
         go_wp2
         go_meet
         case rel => exact ⟨_, (true), (by first | rfl | (simp; done) | (simp [*]; done)), H', ⟨by have := HJ10.out; first | omega | exact Nat.le_refl _⟩, ⟨aR HO_228001⟩, ⟨aR HO_237001⟩, ⟨by (with_reducible repeat (first | refine blk_drewN ?_ _ | refine blk_drew ?_ | refine blk_alloc ?_ _)); exact BK227.out⟩, ⟨by (with_reducible repeat (first | refine blk_drewN ?_ _ | refine blk_drew ?_ | refine blk_alloc ?_ _)); exact BK236.out⟩, ⟨by repeat (first | (with_reducible first | exact HB.out | apply below_alloc | apply pw_below_drewN | apply below_drew1 | refine below_set ?_ GE227.out | refine below_set ?_ GE236.out) | exact HB.out)⟩⟩
        ·rw [if_neg c46] at H
         have c46b0 : decide (t242 < 0) = false := decide_eq_false c46
         clear c46
         (first | rw [c46b0] | (simp only [i64_w, i32_w]; rw [c46b0]) | skip)
         replace H := Option.bind_eq_some_iff.mp H
         obtain ⟨t244, A470, H⟩ := H
         replace H : (if t244 = true then (laws_FnExactParseFact.j1 kj10 l0 a1 t226 (t235 != t226) t222 t223 t231 t232) else (laws_FnExactParseFact.j1 kj10 l0 a1 t226 true t222 t223 t231 t232)) = some r := H
         have A47 := aM A470
         clear A470
         by_cases c48 : t244 = true
         ·subst c48
          have H1 : (laws_FnExactParseFact.j1 kj10 l0 a1 t226 (t235 != t226) t222 t223 t231 t232) = some r := by rw [if_pos rfl] at H; exact H
          clear H
          have H := H1
          clear H1
          have H' := aM H
          clear H
          have hnb49 := NB236_227.out
          have hnc49 := NB227_236.out
          have hcz50_0 : w45.cell? ⟨gb236, 0, none⟩ = some (.int .i64 t231) := (blk_cell BK236.out 0).trans rfl
          have hcz50_1 : w45.cell? ⟨gb236, 1, none⟩ = some (.slice Ao25 t232.length co25) := (blk_cell BK236.out 1).trans rfl
          have hfz50_0 := blk_frozen BK236.out 0
          have hfz50_1 := blk_frozen BK236.out 1
          have hcz51_0 : w45.cell? ⟨gb227, 0, none⟩ = some (.int .i64 t222) := (blk_cell BK227.out 0).trans rfl
          have hcz51_1 : w45.cell? ⟨gb227, 1, none⟩ = some (.slice Ao18 t223.length co18) := (blk_cell BK227.out 1).trans rfl
          have hfz51_0 := blk_frozen BK227.out 0
          have hfz51_1 := blk_frozen BK227.out 1
          go_wp2_with (first | (go_at_call 35; (with_reducible refine (laws_eqFact.calls kj10 t231 _ _ t232 t222 _ _ t223 true _ ?side1 ?side2 ?side3 ?side4 A47.out).mono ?_); (case side1 => repeat (first | exact (Kd.R_reads' HO_237001.out).2.2 | (with_reducible refine Kd.C_alloc ?_ _) | (with_reducible refine Kd.C_drewN ?_ _) | (with_reducible refine Kd.C_drew ?_))); (case side2 => exact (Kd.R_reads' HO_237001.out).2.1); (case side3 => repeat (first | exact (Kd.R_reads' HO_228001.out).2.2 | (with_reducible refine Kd.C_alloc ?_ _) | (with_reducible refine Kd.C_drewN ?_ _) | (with_reducible refine Kd.C_drew ?_))); (case side4 => exact (Kd.R_reads' HO_228001.out).2.1); rintro e w52 ⟨rfl, hb⟩; have n0_ := aM (Kd.R_below (aR HO_8) hb); have n1_ := aM (Kd.R_below (aR HO_228001) hb); have n2_ := aM (Kd.R_below (aR HO_237001) hb); have n3_ := aM (Kd.R_below (aR HO240) hb); have n4_ := aM (blk_below (g := gb227) (o := .cells #[.int .i64 t222, .slice Ao18 t223.length co18] 52 (0, 0)) aK hb); have n5_ := aM (blk_below (g := gb236) (o := .cells #[.int .i64 t231, .slice Ao25 t232.length co25] 52 (0, 0)) aK hb); have n6_ := aM (below_step aG hb); clear HO_8; clear HO_228001; clear HO_237001; clear HO240; clear BK227; clear BK236; clear HB; have HO_8 := n0_; have HO_228001 := n1_; have HO_237001 := n2_; have HO240 := n3_; have BK227 := n4_; have BK236 := n5_; have HB := n6_; clear n0_ n1_ n2_ n3_ n4_ n5_ n6_; (try clear hb); (try clear hb2); (try clear hk); (try clear hi)))
          go_meet
          case rel => exact ⟨_, ((t235 != t226)), (by first | rfl | (simp; done) | (simp [*]; done)), H', ⟨by have := HJ10.out; first | omega | exact Nat.le_refl _⟩, ⟨aR HO_228001⟩, ⟨aR HO_237001⟩, ⟨by (with_reducible repeat (first | refine blk_drewN ?_ _ | refine blk_drew ?_ | refine blk_alloc ?_ _)); exact BK227.out⟩, ⟨by (with_reducible repeat (first | refine blk_drewN ?_ _ | refine blk_drew ?_ | refine blk_alloc ?_ _)); exact BK236.out⟩, ⟨by repeat (first | (with_reducible first | exact HB.out | apply below_alloc | apply pw_below_drewN | apply below_drew1 | refine below_set ?_ GE227.out | refine below_set ?_ GE236.out) | exact HB.out)⟩⟩
         ·replace c48 := Bool.eq_false_iff.mpr c48
          subst c48
          have H1 : (laws_FnExactParseFact.j1 kj10 l0 a1 t226 true t222 t223 t231 t232) = some r := by rw [if_neg (show ¬ (false = true) by decide)] at H; exact H
          clear H
          have H := H1
          clear H1
          have H' := aM H
          clear H
          have hnb53 := NB236_227.out
          have hnc53 := NB227_236.out
          have hcz54_0 : w45.cell? ⟨gb236, 0, none⟩ = some (.int .i64 t231) := (blk_cell BK236.out 0).trans rfl
          have hcz54_1 : w45.cell? ⟨gb236, 1, none⟩ = some (.slice Ao25 t232.length co25) := (blk_cell BK236.out 1).trans rfl
          have hfz54_0 := blk_frozen BK236.out 0
          have hfz54_1 := blk_frozen BK236.out 1
          have hcz55_0 : w45.cell? ⟨gb227, 0, none⟩ = some (.int .i64 t222) := (blk_cell BK227.out 0).trans rfl
          have hcz55_1 : w45.cell? ⟨gb227, 1, none⟩ = some (.slice Ao18 t223.length co18) := (blk_cell BK227.out 1).trans rfl
          have hfz55_0 := blk_frozen BK227.out 0
          have hfz55_1 := blk_frozen BK227.out 1
          go_wp2_with (first | (go_at_call 35; (with_reducible refine (laws_eqFact.calls kj10 t231 _ _ t232 t222 _ _ t223 false _ ?side1 ?side2 ?side3 ?side4 A47.out).mono ?_); (case side1 => repeat (first | exact (Kd.R_reads' HO_237001.out).2.2 | (with_reducible refine Kd.C_alloc ?_ _) | (with_reducible refine Kd.C_drewN ?_ _) | (with_reducible refine Kd.C_drew ?_))); (case side2 => exact (Kd.R_reads' HO_237001.out).2.1); (case side3 => repeat (first | exact (Kd.R_reads' HO_228001.out).2.2 | (with_reducible refine Kd.C_alloc ?_ _) | (with_reducible refine Kd.C_drewN ?_ _) | (with_reducible refine Kd.C_drew ?_))); (case side4 => exact (Kd.R_reads' HO_228001.out).2.1); rintro e w56 ⟨rfl, hb⟩; have n0_ := aM (Kd.R_below (aR HO_8) hb); have n1_ := aM (Kd.R_below (aR HO_228001) hb); have n2_ := aM (Kd.R_below (aR HO_237001) hb); have n3_ := aM (Kd.R_below (aR HO240) hb); have n4_ := aM (blk_below (g := gb227) (o := .cells #[.int .i64 t222, .slice Ao18 t223.length co18] 52 (0, 0)) aK hb); have n5_ := aM (blk_below (g := gb236) (o := .cells #[.int .i64 t231, .slice Ao25 t232.length co25] 52 (0, 0)) aK hb); have n6_ := aM (below_step aG hb); clear HO_8; clear HO_228001; clear HO_237001; clear HO240; clear BK227; clear BK236; clear HB; have HO_8 := n0_; have HO_228001 := n1_; have HO_237001 := n2_; have HO240 := n3_; have BK227 := n4_; have BK236 := n5_; have HB := n6_; clear n0_ n1_ n2_ n3_ n4_ n5_ n6_; (try clear hb); (try clear hb2); (try clear hk); (try clear hi)))
          go_meet
          case rel => exact ⟨_, (true), (by first | rfl | (simp; done) | (simp [*]; done)), H', ⟨by have := HJ10.out; first | omega | exact Nat.le_refl _⟩, ⟨aR HO_228001⟩, ⟨aR HO_237001⟩, ⟨by (with_reducible repeat (first | refine blk_drewN ?_ _ | refine blk_drew ?_ | refine blk_alloc ?_ _)); exact BK227.out⟩, ⟨by (with_reducible repeat (first | refine blk_drewN ?_ _ | refine blk_drew ?_ | refine blk_alloc ?_ _)); exact BK236.out⟩, ⟨by repeat (first | (with_reducible first | exact HB.out | apply below_alloc | apply pw_below_drewN | apply below_drew1 | refine below_set ?_ GE227.out | refine below_set ?_ GE236.out) | exact HB.out)⟩⟩
       case rest =>
        clear HC41
        try clear c2
        try clear p2
        try clear c3
        try clear c3b0
        try clear c3b1
        try clear c4
        try clear c5
        try clear c5b0
        try clear c9
        try clear c23
        try clear c27
        try clear c28
        try clear c31
        try clear c32
        try clear c34
        try clear c35
        try clear c36
        try clear c38
        try clear c39
        try clear c40
        try clear c46
        try clear c46b0
        try clear c48
        try clear c49
        try clear c53
        try clear hcz17_0
        try clear hcz17_1
        try clear hcz24_0
        try clear hcz24_1
        try clear hcz29_0
        try clear hcz29_1
        try clear hcz30_0
        try clear hcz30_1
        try clear hcz33_0
        try clear hcz33_1
        try clear hcz34_0
        try clear hcz34_1
        try clear hcz50_0
        try clear hcz50_1
        try clear hcz51_0
        try clear hcz51_1
        try clear hcz54_0
        try clear hcz54_1
        try clear hcz55_0
        try clear hcz55_1
        try clear hfz17_0
        try clear hfz17_1
        try clear hfz24_0
        try clear hfz24_1
        try clear hfz29_0
        try clear hfz29_1
        try clear hfz30_0
        try clear hfz30_1
        try clear hfz33_0
        try clear hfz33_1
        try clear hfz34_0
        try clear hfz34_1
        try clear hfz50_0
        try clear hfz50_1
        try clear hfz51_0
        try clear hfz51_1
        try clear hfz54_0
        try clear hfz54_1
        try clear hfz55_0
        try clear hfz55_1
        try clear p2
        obtain ⟨kq, x68_40, rfl, HA, HJ40, HO_228001, HO_237001, BK227, BK236, HB⟩ := hcut
        cases kq with
        | zero => exact absurd HA.out (by simp [laws_FnExactParseFact.j1])
        | succ kj40 =>
         have H := HA.out
         clear HA
         simp only [laws_FnExactParseFact.j1] at H
         by_cases c57 : x68_40 = true
         ·subst c57
          have H1 : (some false) = some r := by rw [if_pos rfl] at H; exact H
          clear H
          have H := H1
          clear H1
          exact absurd (Option.some.inj (H.trans (congrArg some HRT_.out))) (by decide)
         ·replace c57 := Bool.eq_false_iff.mpr c57
          subst c57
          have H1 : ((laws_markFact.f kj40 t231 t232 1).bind fun bt245 => ((laws_heldFact.f kj40 t231 bt245.2 1).bind fun t247 => (if t247 < 0 then (some false) else (if t247 = bt245.1 then ((laws_toRelationS.f kj40 l0).bind fun t248 => ((impl_ParseFact.f kj40 t248 a1).bind fun bt251 => ((laws_eqFact.f kj40 bt251.1 bt251.2.1 t222 t223).bind fun t257 => (if t257 = true then (laws_FnExactParseFact.j2 kj40 bt245.1 (bt251.2.2 != t226) t231 bt245.2) else (laws_FnExactParseFact.j2 kj40 bt245.1 true t231 bt245.2))))) else (some false))))) = some r := by rw [if_neg (show ¬ (false = true) by decide)] at H; exact H
          clear H
          have H := H1
          clear H1
          replace H := Option.bind_eq_some_iff.mp H
          obtain ⟨⟨t245, t246⟩, A580, H⟩ := H
          replace H : ((laws_heldFact.f kj40 t231 t246 1).bind fun t247 => (if t247 < 0 then (some false) else (if t247 = t245 then ((laws_toRelationS.f kj40 l0).bind fun t248 => ((impl_ParseFact.f kj40 t248 a1).bind fun bt251 => ((laws_eqFact.f kj40 bt251.1 bt251.2.1 t222 t223).bind fun t257 => (if t257 = true then (laws_FnExactParseFact.j2 kj40 t245 (bt251.2.2 != t226) t231 t246) else (laws_FnExactParseFact.j2 kj40 t245 true t231 t246))))) else (some false)))) = some r := H
          have A58 := aM A580
          clear A580
          replace H := Option.bind_eq_some_iff.mp H
          obtain ⟨t247, A590, H⟩ := H
          replace H : (if t247 < 0 then (some false) else (if t247 = t245 then ((laws_toRelationS.f kj40 l0).bind fun t248 => ((impl_ParseFact.f kj40 t248 a1).bind fun bt251 => ((laws_eqFact.f kj40 bt251.1 bt251.2.1 t222 t223).bind fun t257 => (if t257 = true then (laws_FnExactParseFact.j2 kj40 t245 (bt251.2.2 != t226) t231 t246) else (laws_FnExactParseFact.j2 kj40 t245 true t231 t246))))) else (some false))) = some r := H
          have A59 := aM A590
          clear A590
          by_cases c60 : t247 < 0
          ·rw [if_pos c60] at H
           have c60b0 : decide (t247 < 0) = true := decide_eq_true c60
           clear c60
           exact absurd (Option.some.inj (H.trans (congrArg some HRT_.out))) (by decide)
          ·rw [if_neg c60] at H
           have c60b0 : decide (t247 < 0) = false := decide_eq_false c60
           clear c60
           by_cases c61 : t247 = t245
           ·rw [if_pos c61] at H
            have c61b0 : (t247 == t245) = true := beq_iff_eq.mpr c61
            have c61b1 : (t247 != t245) = false := bne_eq_false_iff_eq.mpr c61
            clear c61
            replace H := Option.bind_eq_some_iff.mp H
            obtain ⟨t248, A620, H⟩ := H
            replace H : ((impl_ParseFact.f kj40 t248 a1).bind fun bt251 => ((laws_eqFact.f kj40 bt251.1 bt251.2.1 t222 t223).bind fun t257 => (if t257 = true then (laws_FnExactParseFact.j2 kj40 t245 (bt251.2.2 != t226) t231 t246) else (laws_FnExactParseFact.j2 kj40 t245 true t231 t246)))) = some r := H
            have A62 := aM A620
            clear A620
            replace H := Option.bind_eq_some_iff.mp H
            obtain ⟨⟨t251, t252, t255⟩, A630, H⟩ := H
            replace H : ((laws_eqFact.f kj40 t251 t252 t222 t223).bind fun t257 => (if t257 = true then (laws_FnExactParseFact.j2 kj40 t245 (t255 != t226) t231 t246) else (laws_FnExactParseFact.j2 kj40 t245 true t231 t246))) = some r := H
            have A63 := aM A630
            clear A630
            have HC64 := aM H
            clear H
            have hnb65 := NB236_227.out
            have hnc65 := NB227_236.out
            have hcz66_0 : wc.cell? ⟨gb236, 0, none⟩ = some (.int .i64 t231) := (blk_cell BK236.out 0).trans rfl
            have hcz66_1 : wc.cell? ⟨gb236, 1, none⟩ = some (.slice Ao25 t232.length co25) := (blk_cell BK236.out 1).trans rfl
            have hfz66_0 := blk_frozen BK236.out 0
            have hfz66_1 := blk_frozen BK236.out 1
            go_upto_region 27 with (first | ((with_reducible refine gate_callee (f := 41) rfl ?_); refine goesL_ (some 71) rfl rfl Tryd.func41 (by kernel_rfl) rfl #[.agg #[.int .i64 t231, .slice Ao25 t232.length co25], .int .i64 1] rfl (by (try simp only [List.map_toArray, List.map_cons, List.map_nil]); first | done | rfl | (simp only [List.length_drop, List.length_take]; rfl)) ?_; (with_reducible refine (laws_markFact.calls kj40 t231 (fun k_ => some k_ = (.slice Ao25 t232.length co25 : Value).ownBlock) (.slice Ao25 t232.length co25) t232 1 t245 t246 w _ ?side1 ?side2 A58.out).mono ?_); (case side1 => repeat (first | (with_reducible first | exact HB.out | apply below_alloc | apply pw_below_drewN | apply below_drew1 | refine below_set ?_ GE227.out | refine below_set ?_ GE236.out) | exact HB.out)); (case side2 => exact Kd.R_tight rfl HO_237001.out); rintro e w67 ⟨rfl, hy0, hb, hkp⟩; refine ⟨_, rfl, ?_⟩; have n0_ := aM (Kd.R_mono (ok' := fun k_ => some k_ ≠ (.slice Ao25 t232.length co25 : Value).ownBlock) (Kd.R_keptB (HO_228001.out) hkp (fun k_ hk_ hs_ => (hk_) hs_)) (fun k_ hk_ => hk_.1)); have n1_ := aM (Kd.R_reok rfl hy0 (fun k_ e_ => HO_237001.out.1 k_ e_)); have n2_ := aM (blk_kept aK hkp (fun hs_ => (fun e_ => (Kd.R_ne HO_237001.out BK227.out (by decide)) e_) hs_)); have n3_ := aM (blk_kept aK hkp (fun hs_ => (fun e_ => (Kd.R_ne HO_237001.out BK236.out (by decide)) e_) hs_)); have n4_ := aM (hb); clear HO_228001; clear HO_237001; clear BK227; clear BK236; clear HB; have HO_228001 := n0_; have HO_237001 := n1_; have BK227 := n2_; have BK236 := n3_; have HB := n4_; clear n0_ n1_ n2_ n3_ n4_; (try clear hb); (try clear hkp); (try clear hy0); have hcz68_0 : w67.cell? ⟨gb236, 0, none⟩ = some (.int .i64 t231) := (blk_cell BK236.out 0).trans rfl; have hcz68_1 : w67.cell? ⟨gb236, 1, none⟩ = some (.slice Ao25 t232.length co25) := (blk_cell BK236.out 1).trans rfl; have hfz68_0 := blk_frozen BK236.out 0; have hfz68_1 := blk_frozen BK236.out 1) | ((with_reducible refine gate_callee (f := 42) rfl ?_); refine goesL_ (some 74) rfl rfl Tryd.func42 (by kernel_rfl) rfl #[.agg #[.int .i64 t231, .slice Ao25 t246.length co25], .int .i64 1] rfl (by (try simp only [List.map_toArray, List.map_cons, List.map_nil]); first | done | (rw [show t246.length = t232.length from (Kd.R_reads' HO_237001.out).1.symm] <;> rfl) | rfl | (simp only [List.length_drop, List.length_take]; rfl)) ?_; (with_reducible refine (laws_heldFact.calls kj40 t231 _ _ t246 1 t247 _ ?side1 ?side2 A59.out).mono ?_); (case side1 => repeat (first | exact (Kd.R_reads' HO_237001.out).2.2 | (with_reducible refine Kd.C_alloc ?_ _) | (with_reducible refine Kd.C_drewN ?_ _) | (with_reducible refine Kd.C_drew ?_))); (case side2 => rw [show t246.length = t232.length from (Kd.R_reads' HO_237001.out).1.symm]; exact (Kd.R_reads' HO_237001.out).2.1); rintro e w69 ⟨rfl, hb⟩; refine ⟨_, rfl, ?_⟩; have n0_ := aM (Kd.R_below (aR HO_228001) hb); have n1_ := aM (Kd.R_below (aR HO_237001) hb); have n2_ := aM (blk_below (g := gb227) (o := .cells #[.int .i64 t222, .slice Ao18 t223.length co18] 52 (0, 0)) aK hb); have n3_ := aM (blk_below (g := gb236) (o := .cells #[.int .i64 t231, .slice Ao25 t232.length co25] 52 (0, 0)) aK hb); have n4_ := aM (below_step aG hb); clear HO_228001; clear HO_237001; clear BK227; clear BK236; clear HB; have HO_228001 := n0_; have HO_237001 := n1_; have BK227 := n2_; have BK236 := n3_; have HB := n4_; clear n0_ n1_ n2_ n3_ n4_; (try clear hb); (try clear hb2); (try clear hk); (try clear hi)) | ((with_reducible refine gate_callee (f := 31) rfl ?_); refine goesL_ (some 82) rfl rfl Tryd.func31 (by kernel_rfl) rfl #[.slice A0 l0.length c0] rfl (by (try simp only [List.map_toArray, List.map_cons, List.map_nil]); first | done | rfl | (simp only [List.length_drop, List.length_take]; rfl)) ?_; (with_reducible refine (laws_toRelationS.calls kj40 _ _ l0 t248 _ ?side1 ?side2 A62.out).mono ?_); (case side1 => exact aC); (case side2 => exact HC0.out); rintro e w70 ⟨v249, rfl, ho0, hb⟩; refine ⟨_, rfl, ?_⟩; have n0_ := aM (Kd.R_below (aR HO_228001) hb); have n1_ := aM (Kd.R_below (aR HO_237001) hb); have n2_ := aM (Kd.R_lower ho0 (below_size aG)); have n3_ := aM (blk_below (g := gb227) (o := .cells #[.int .i64 t222, .slice Ao18 t223.length co18] 52 (0, 0)) aK hb); have n4_ := aM (blk_below (g := gb236) (o := .cells #[.int .i64 t231, .slice Ao25 t232.length co25] 52 (0, 0)) aK hb); have n5_ := aM (below_step aG hb); clear HO_228001; clear HO_237001; clear BK227; clear BK236; clear HB; have HO_228001 := n0_; have HO_237001 := n1_; have HO250 := n2_; have BK227 := n3_; have BK236 := n4_; have HB := n5_; clear n0_ n1_ n2_ n3_ n4_ n5_; (try clear hb); (try clear hb2); (try clear hk); (try clear hi); (try clear ho0); obtain ⟨Ao71, co71, eo71⟩ := Kd.R_slice HO250.out; subst eo71) | ((with_reducible refine gate_callee (f := 39) rfl ?_); refine goesL_ (some 84) rfl rfl Tryd.func39 (by kernel_rfl) rfl #[.slice Ao71 t248.length co71, .string a1] rfl (by (try simp only [List.map_toArray, List.map_cons, List.map_nil]); first | done | rfl | (simp only [List.length_drop, List.length_take]; rfl)) ?_; (with_reducible refine (impl_ParseFact.calls kj40 _ _ t248 a1 t251 t252 t255 _ ?side1 ?side2 A63.out (hp_.on (by repeat (first | (with_reducible first | exact HB.out | apply below_alloc | apply pw_below_drewN | apply below_drew1 | refine below_set ?_ GE227.out | refine below_set ?_ GE236.out | refine below_set ?_ GE256.out) | exact HB.out)))).mono ?_); (case side1 => repeat (first | exact (Kd.R_reads' HO250.out).2.2 | (with_reducible refine Kd.C_alloc ?_ _) | (with_reducible refine Kd.C_drewN ?_ _) | (with_reducible refine Kd.C_drew ?_))); (case side2 => exact (Kd.R_reads' HO250.out).2.1); rintro e w72 ⟨v253, rfl, ho0, hb⟩; refine ⟨_, rfl, ?_⟩; have n0_ := aM (Kd.R_elder' (aR HO_228001) (Kd.R_base ho0) hb); have n1_ := aM (Kd.R_elder' (aR HO_237001) (Kd.R_base ho0) hb); have n2_ := aM (Kd.R_below (aR HO250) hb); have n3_ := aM (Kd.R_lower (Kd.R_new' (Kd.R_new' ho0 (Kd.R_lt (aR HO_228001))) (Kd.R_lt (aR HO_237001))) (below_size aG)); have n4_ := aM (blk_below (g := gb227) (o := .cells #[.int .i64 t222, .slice Ao18 t223.length co18] 52 (0, 0)) aK hb); have n5_ := aM (blk_below (g := gb236) (o := .cells #[.int .i64 t231, .slice Ao25 t232.length co25] 52 (0, 0)) aK hb); have n6_ := aM (below_step aG hb); clear HO_228001; clear HO_237001; clear HO250; clear BK227; clear BK236; clear HB; have HO_228001 := n0_; have HO_237001 := n1_; have HO250 := n2_; have HO254 := n3_; have BK227 := n4_; have BK236 := n5_; have HB := n6_; clear n0_ n1_ n2_ n3_ n4_ n5_ n6_; (try clear hb); (try clear hb2); (try clear hk); (try clear hi); (try clear ho0)) | ((with_reducible refine gate_dst (N := 14) rfl ?_); refine box_event ?hg (N := 14) ?hd (cs := #[.int .i64 0, .slice none 0 0]) (t := 52) ?hr ?_; (case hd => rfl); (case hg => rfl); (case hr => first | (go_simp; done) | (go_simp; rfl)); intro gb256 hg w73 hbox hb; have n0_ := aM (Kd.R_below (aR HO_228001) hb); have n1_ := aM (Kd.R_below (aR HO_237001) hb); have n2_ := aM (Kd.R_below (aR HO250) hb); have n3_ := aM (Kd.R_below (aR HO254) hb); have n4_ := aM (blk_below (g := gb227) (o := .cells #[.int .i64 t222, .slice Ao18 t223.length co18] 52 (0, 0)) aK hb); have n5_ := aM (blk_below (g := gb236) (o := .cells #[.int .i64 t231, .slice Ao25 t232.length co25] 52 (0, 0)) aK hb); have n6_ := aM (below_step aG hb); have n7_ := aM (hbox); have n8_ := aM ((by rw [hg]; exact (below_size aG) : w.heap.size ≤ gb256)); have n9_ := aM ((by rw [hg]; exact (below_size aG) : w.heap.size ≤ gb256)); have n10_ := aM ((by rw [hg]; exact Nat.ne_of_lt (blk_lt (g := gb227) (o := .cells #[.int .i64 t222, .slice Ao18 t223.length co18] 52 (0, 0)) aK) : gb227 ≠ gb256)); have n11_ := aM ((by rw [hg]; exact Nat.ne_of_gt (blk_lt (g := gb227) (o := .cells #[.int .i64 t222, .slice Ao18 t223.length co18] 52 (0, 0)) aK) : gb256 ≠ gb227)); have n12_ := aM ((by rw [hg]; exact Nat.ne_of_lt (blk_lt (g := gb236) (o := .cells #[.int .i64 t231, .slice Ao25 t232.length co25] 52 (0, 0)) aK) : gb236 ≠ gb256)); have n13_ := aM ((by rw [hg]; exact Nat.ne_of_gt (blk_lt (g := gb236) (o := .cells #[.int .i64 t231, .slice Ao25 t232.length co25] 52 (0, 0)) aK) : gb256 ≠ gb236)); clear HO_228001; clear HO_237001; clear HO250; clear HO254; clear BK227; clear BK236; clear HB; have HO_228001 := n0_; have HO_237001 := n1_; have HO250 := n2_; have HO254 := n3_; have BK227 := n4_; have BK236 := n5_; have HB := n6_; have BK256 := n7_; have GW256 := n8_; have GE256 := n9_; have NB227_256 := n10_; have NB256_227 := n11_; have NB236_256 := n12_; have NB256_236 := n13_; clear n0_ n1_ n2_ n3_ n4_ n5_ n6_ n7_ n8_ n9_ n10_ n11_ n12_ n13_; clear hb hbox hg; have hnb74 := NB256_227.out; have hnc74 := NB227_256.out; have hnb75 := NB256_236.out; have hnc75 := NB236_256.out; have hcz76_0 : w73.cell? ⟨gb256, 0, none⟩ = some (.int .i64 0) := (blk_cell BK256.out 0).trans rfl; have hcz76_1 : w73.cell? ⟨gb256, 1, none⟩ = some (.slice none 0 0) := (blk_cell BK256.out 1).trans rfl; have hfz76_0 := blk_frozen BK256.out 0; have hfz76_1 := blk_frozen BK256.out 1; obtain ⟨Ao77, co77, eo77⟩ := Kd.R_slice HO254.out; subst eo77))
            (try simp only [Act.put, List.setIfInBounds_toArray, List.set_cons_zero, List.set_cons_succ])
            go_cut [95] (fun v95 wc => ∃ (kq : Nat) (x95_63 : Bool), v95 = .bool x95_63 ∧ Aside0 (laws_FnExactParseFact.j2 kq t245 x95_63 t231 t246 = some r) ∧ Aside0 (kq ≤ kj40) ∧ Aside0 (Kd.R (Kd.int .i64) 3 wc w.heap.size (fun k_ => some k_ ≠ ((.slice Ao25 t232.length co25) : Value).ownBlock ∧ some k_ ≠ ((.slice Ao77 t252.length co77) : Value).ownBlock) (.slice Ao18 t223.length co18) t223) ∧ Aside0 (Kd.R (Kd.int .i64) 3 wc w.heap.size (fun k_ => some k_ ≠ ((.slice Ao18 t223.length co18) : Value).ownBlock ∧ some k_ ≠ ((.slice Ao77 t252.length co77) : Value).ownBlock) (.slice Ao25 t232.length co25) t246) ∧ Aside0 (Kd.R (Kd.int .i64) 3 wc w.heap.size (fun k_ => some k_ ≠ ((.slice Ao18 t223.length co18) : Value).ownBlock ∧ some k_ ≠ ((.slice Ao25 t232.length co25) : Value).ownBlock) (.slice Ao77 t252.length co77) t252) ∧ Aside0 (wc.heap[gb227]? = some (.cells #[.int .i64 t222, (.slice Ao18 t223.length co18)] 52 (0, 0))) ∧ Aside0 (wc.heap[gb236]? = some (.cells #[.int .i64 t231, (.slice Ao25 t232.length co25)] 52 (0, 0))) ∧ Aside0 (wc.heap[gb256]? = some (.cells #[.int .i64 t251, (.slice Ao77 t252.length co77)] 52 (0, 0))) ∧ Aside0 (Below w.heap.size w wc))
            case first =>
             have H := HC64.out
             clear HC64
             replace H := Option.bind_eq_some_iff.mp H
             obtain ⟨t257, A780, H⟩ := H
             replace H : (if t257 = true then (laws_FnExactParseFact.j2 kj40 t245 (t255 != t226) t231 t246) else (laws_FnExactParseFact.j2 kj40 t245 true t231 t246)) = some r := H
             have A78 := aM A780
             clear A780
             by_cases c79 : t257 = true
             ·subst c79
              have H1 : (laws_FnExactParseFact.j2 kj40 t245 (t255 != t226) t231 t246) = some r := by rw [if_pos rfl] at H; exact H
              clear H
              have H := H1
              clear H1
              have H' := aM H
              clear H
              have hnb80 := NB256_227.out
              have hnc80 := NB227_256.out
              have hnb81 := NB256_236.out
              have hnc81 := NB236_256.out
              have hcz82_0 : w73.cell? ⟨gb256, 0, none⟩ = some (.int .i64 0) := (blk_cell BK256.out 0).trans rfl
              have hcz82_1 : w73.cell? ⟨gb256, 1, none⟩ = some (.slice none 0 0) := (blk_cell BK256.out 1).trans rfl
              have hfz82_0 := blk_frozen BK256.out 0
              have hfz82_1 := blk_frozen BK256.out 1
              have hnb83 := NB227_236.out
              have hnc83 := NB236_227.out
              have hcz84_0 : w73.cell? ⟨gb227, 0, none⟩ = some (.int .i64 t222) := (blk_cell BK227.out 0).trans rfl
              have hcz84_1 : w73.cell? ⟨gb227, 1, none⟩ = some (.slice Ao18 t223.length co18) := (blk_cell BK227.out 1).trans rfl
              have hfz84_0 := blk_frozen BK227.out 0
              have hfz84_1 := blk_frozen BK227.out 1
              go_wp2_with (first | ((with_reducible refine gate_callee (f := 35) rfl ?_); refine goesL_ (some 89) rfl rfl Tryd.func35 (by kernel_rfl) rfl #[.agg #[.int .i64 t251, .slice Ao77 t252.length co77], .agg #[.int .i64 t222, .slice Ao18 t223.length co18]] rfl (by (try simp only [List.map_toArray, List.map_cons, List.map_nil]); first | done | rfl | (simp only [List.length_drop, List.length_take]; rfl)) ?_; (with_reducible refine (laws_eqFact.calls kj40 t251 _ _ t252 t222 _ _ t223 true _ ?side1 ?side2 ?side3 ?side4 A78.out).mono ?_); (case side1 => refine (Kd.R_reads' (e := 3) (base := w.heap.size) (ok := fun k_ => ((True ∧ some k_ ≠ (.slice Ao18 t223.length co18 : Value).ownBlock) ∧ some k_ ≠ (.slice Ao25 t232.length co25 : Value).ownBlock)) (n := t252.length) (c := co77) ?_).2.2; exact (by (with_reducible repeat (first | apply Kd.R_alloc | apply Kd.R_drewN | apply Kd.R_drew)); exact (Kd.R_mono (Kd.R_far (p := ⟨gb256, 1, none⟩) (Kd.R_far (p := ⟨gb256, 0, none⟩) (Kd.R_types HO254.out BK256.out (by decide)) (fun _ hk => hk.2) (.int .i64 t251)) (fun _ hk => hk.2) (.slice Ao77 t252.length co77)) (fun _ h_ => h_.1)))); (case side2 => exact (Kd.R_reads' HO254.out).2.1); (case side3 => refine (Kd.R_reads' (e := 3) (base := w.heap.size) (ok := fun k_ => (some k_ ≠ (.slice Ao25 t232.length co25 : Value).ownBlock ∧ some k_ ≠ (.slice Ao77 t252.length co77 : Value).ownBlock)) (n := t223.length) (c := co18) ?_).2.2; exact (by (with_reducible repeat (first | apply Kd.R_alloc | apply Kd.R_drewN | apply Kd.R_drew)); exact (Kd.R_mono (Kd.R_far (p := ⟨gb256, 1, none⟩) (Kd.R_far (p := ⟨gb256, 0, none⟩) (Kd.R_types HO_228001.out BK256.out (by decide)) (fun _ hk => hk.2) (.int .i64 t251)) (fun _ hk => hk.2) (.slice Ao77 t252.length co77)) (fun _ h_ => h_.1)))); (case side4 => exact (Kd.R_reads' HO_228001.out).2.1); rintro e w85 ⟨rfl, hb⟩; refine ⟨_, rfl, ?_⟩; have n0_ := aM (Kd.R_below (by (with_reducible repeat (first | apply Kd.R_alloc | apply Kd.R_drewN | apply Kd.R_drew)); exact (Kd.R_mono (Kd.R_far (p := ⟨gb256, 1, none⟩) (Kd.R_far (p := ⟨gb256, 0, none⟩) (Kd.R_types HO_228001.out BK256.out (by decide)) (fun _ hk => hk.2) (.int .i64 t251)) (fun _ hk => hk.2) (.slice Ao77 t252.length co77)) (fun _ h_ => h_.1))) hb); have n1_ := aM (Kd.R_below (by (with_reducible repeat (first | apply Kd.R_alloc | apply Kd.R_drewN | apply Kd.R_drew)); exact (Kd.R_mono (Kd.R_far (p := ⟨gb256, 1, none⟩) (Kd.R_far (p := ⟨gb256, 0, none⟩) (Kd.R_types HO_237001.out BK256.out (by decide)) (fun _ hk => hk.2) (.int .i64 t251)) (fun _ hk => hk.2) (.slice Ao77 t252.length co77)) (fun _ h_ => h_.1))) hb); have n2_ := aM (Kd.R_below (by (with_reducible repeat (first | apply Kd.R_alloc | apply Kd.R_drewN | apply Kd.R_drew)); exact (Kd.R_mono (Kd.R_far (p := ⟨gb256, 1, none⟩) (Kd.R_far (p := ⟨gb256, 0, none⟩) (Kd.R_types HO250.out BK256.out (by decide)) (fun _ hk => hk.2) (.int .i64 t251)) (fun _ hk => hk.2) (.slice Ao77 t252.length co77)) (fun _ h_ => h_.1))) hb); have n3_ := aM (Kd.R_below (by (with_reducible repeat (first | apply Kd.R_alloc | apply Kd.R_drewN | apply Kd.R_drew)); exact (Kd.R_mono (Kd.R_far (p := ⟨gb256, 1, none⟩) (Kd.R_far (p := ⟨gb256, 0, none⟩) (Kd.R_types HO254.out BK256.out (by decide)) (fun _ hk => hk.2) (.int .i64 t251)) (fun _ hk => hk.2) (.slice Ao77 t252.length co77)) (fun _ h_ => h_.1))) hb); have n4_ := aM (blk_below (g := gb227) (o := .cells #[.int .i64 t222, .slice Ao18 t223.length co18] 52 (0, 0)) (by (with_reducible repeat (first | refine blk_drewN ?_ _ | refine blk_drew ?_ | refine blk_alloc ?_ _)); refine blk_far ?_ NB227_256.out _; (with_reducible repeat (first | refine blk_drewN ?_ _ | refine blk_drew ?_ | refine blk_alloc ?_ _)); refine blk_far ?_ NB227_256.out _; (with_reducible repeat (first | refine blk_drewN ?_ _ | refine blk_drew ?_ | refine blk_alloc ?_ _)); exact BK227.out) hb); have n5_ := aM (blk_below (g := gb236) (o := .cells #[.int .i64 t231, .slice Ao25 t232.length co25] 52 (0, 0)) (by (with_reducible repeat (first | refine blk_drewN ?_ _ | refine blk_drew ?_ | refine blk_alloc ?_ _)); refine blk_far ?_ NB236_256.out _; (with_reducible repeat (first | refine blk_drewN ?_ _ | refine blk_drew ?_ | refine blk_alloc ?_ _)); refine blk_far ?_ NB236_256.out _; (with_reducible repeat (first | refine blk_drewN ?_ _ | refine blk_drew ?_ | refine blk_alloc ?_ _)); exact BK236.out) hb); have n6_ := aM (blk_below (g := gb256) (o := .cells #[.int .i64 t251, .slice Ao77 t252.length co77] 52 (0, 0)) (by (with_reducible repeat (first | refine blk_drewN ?_ _ | refine blk_drew ?_ | refine blk_alloc ?_ _)); refine blk_put (cs := #[.int .i64 t251, .slice none 0 0]) ?_ 1 _ rfl; (with_reducible repeat (first | refine blk_drewN ?_ _ | refine blk_drew ?_ | refine blk_alloc ?_ _)); refine blk_put (cs := #[.int .i64 0, .slice none 0 0]) ?_ 0 _ rfl; (with_reducible repeat (first | refine blk_drewN ?_ _ | refine blk_drew ?_ | refine blk_alloc ?_ _)); exact BK256.out) hb); have n7_ := aM (below_step aG hb); clear HO_228001; clear HO_237001; clear HO250; clear HO254; clear BK227; clear BK236; clear BK256; clear HB; have HO_228001 := n0_; have HO_237001 := n1_; have HO250 := n2_; have HO254 := n3_; have BK227 := n4_; have BK236 := n5_; have BK256 := n6_; have HB := n7_; clear n0_ n1_ n2_ n3_ n4_ n5_ n6_ n7_; (try clear hb); (try clear hb2); (try clear hk); (try clear hi)))
              go_meet
              case rel => exact ⟨_, ((t255 != t226)), (by first | rfl | (simp; done) | (simp [*]; done)), H', ⟨by have := HJ10.out; have := HJ40.out; first | omega | exact Nat.le_refl _⟩, ⟨aR HO_228001⟩, ⟨aR HO_237001⟩, ⟨by (with_reducible repeat (first | apply Kd.R_alloc | apply Kd.R_drewN | apply Kd.R_drew)); exact Kd.R_mono HO254.out (fun _ hk => ⟨hk.1.2, hk.2⟩)⟩, ⟨by (with_reducible repeat (first | refine blk_drewN ?_ _ | refine blk_drew ?_ | refine blk_alloc ?_ _)); exact BK227.out⟩, ⟨by (with_reducible repeat (first | refine blk_drewN ?_ _ | refine blk_drew ?_ | refine blk_alloc ?_ _)); exact BK236.out⟩, ⟨by (with_reducible repeat (first | refine blk_drewN ?_ _ | refine blk_drew ?_ | refine blk_alloc ?_ _)); exact BK256.out⟩, ⟨by repeat (first | (with_reducible first | exact HB.out | apply below_alloc | apply pw_below_drewN | apply below_drew1 | refine below_set ?_ GE227.out | refine below_set ?_ GE236.out | refine below_set ?_ GE256.out) | exact HB.out)⟩⟩
             ·replace c79 := Bool.eq_false_iff.mpr c79
              subst c79
              have H1 : (laws_FnExactParseFact.j2 kj40 t245 true t231 t246) = some r := by rw [if_neg (show ¬ (false = true) by decide)] at H; exact H
              clear H
              have H := H1
              clear H1
              have H' := aM H
              clear H
              have hnb86 := NB256_227.out
              have hnc86 := NB227_256.out
              have hnb87 := NB256_236.out
              have hnc87 := NB236_256.out
              have hcz88_0 : w73.cell? ⟨gb256, 0, none⟩ = some (.int .i64 0) := (blk_cell BK256.out 0).trans rfl
              have hcz88_1 : w73.cell? ⟨gb256, 1, none⟩ = some (.slice none 0 0) := (blk_cell BK256.out 1).trans rfl
              have hfz88_0 := blk_frozen BK256.out 0
              have hfz88_1 := blk_frozen BK256.out 1
              have hnb89 := NB227_236.out
              have hnc89 := NB236_227.out
              have hcz90_0 : w73.cell? ⟨gb227, 0, none⟩ = some (.int .i64 t222) := (blk_cell BK227.out 0).trans rfl
              have hcz90_1 : w73.cell? ⟨gb227, 1, none⟩ = some (.slice Ao18 t223.length co18) := (blk_cell BK227.out 1).trans rfl
              have hfz90_0 := blk_frozen BK227.out 0
              have hfz90_1 := blk_frozen BK227.out 1
              go_wp2_with (first | ((with_reducible refine gate_callee (f := 35) rfl ?_); refine goesL_ (some 89) rfl rfl Tryd.func35 (by kernel_rfl) rfl #[.agg #[.int .i64 t251, .slice Ao77 t252.length co77], .agg #[.int .i64 t222, .slice Ao18 t223.length co18]] rfl (by (try simp only [List.map_toArray, List.map_cons, List.map_nil]); first | done | rfl | (simp only [List.length_drop, List.length_take]; rfl)) ?_; (with_reducible refine (laws_eqFact.calls kj40 t251 _ _ t252 t222 _ _ t223 false _ ?side1 ?side2 ?side3 ?side4 A78.out).mono ?_); (case side1 => refine (Kd.R_reads' (e := 3) (base := w.heap.size) (ok := fun k_ => ((True ∧ some k_ ≠ (.slice Ao18 t223.length co18 : Value).ownBlock) ∧ some k_ ≠ (.slice Ao25 t232.length co25 : Value).ownBlock)) (n := t252.length) (c := co77) ?_).2.2; exact (by (with_reducible repeat (first | apply Kd.R_alloc | apply Kd.R_drewN | apply Kd.R_drew)); exact (Kd.R_mono (Kd.R_far (p := ⟨gb256, 1, none⟩) (Kd.R_far (p := ⟨gb256, 0, none⟩) (Kd.R_types HO254.out BK256.out (by decide)) (fun _ hk => hk.2) (.int .i64 t251)) (fun _ hk => hk.2) (.slice Ao77 t252.length co77)) (fun _ h_ => h_.1)))); (case side2 => exact (Kd.R_reads' HO254.out).2.1); (case side3 => refine (Kd.R_reads' (e := 3) (base := w.heap.size) (ok := fun k_ => (some k_ ≠ (.slice Ao25 t232.length co25 : Value).ownBlock ∧ some k_ ≠ (.slice Ao77 t252.length co77 : Value).ownBlock)) (n := t223.length) (c := co18) ?_).2.2; exact (by (with_reducible repeat (first | apply Kd.R_alloc | apply Kd.R_drewN | apply Kd.R_drew)); exact (Kd.R_mono (Kd.R_far (p := ⟨gb256, 1, none⟩) (Kd.R_far (p := ⟨gb256, 0, none⟩) (Kd.R_types HO_228001.out BK256.out (by decide)) (fun _ hk => hk.2) (.int .i64 t251)) (fun _ hk => hk.2) (.slice Ao77 t252.length co77)) (fun _ h_ => h_.1)))); (case side4 => exact (Kd.R_reads' HO_228001.out).2.1); rintro e w91 ⟨rfl, hb⟩; refine ⟨_, rfl, ?_⟩; have n0_ := aM (Kd.R_below (by (with_reducible repeat (first | apply Kd.R_alloc | apply Kd.R_drewN | apply Kd.R_drew)); exact (Kd.R_mono (Kd.R_far (p := ⟨gb256, 1, none⟩) (Kd.R_far (p := ⟨gb256, 0, none⟩) (Kd.R_types HO_228001.out BK256.out (by decide)) (fun _ hk => hk.2) (.int .i64 t251)) (fun _ hk => hk.2) (.slice Ao77 t252.length co77)) (fun _ h_ => h_.1))) hb); have n1_ := aM (Kd.R_below (by (with_reducible repeat (first | apply Kd.R_alloc | apply Kd.R_drewN | apply Kd.R_drew)); exact (Kd.R_mono (Kd.R_far (p := ⟨gb256, 1, none⟩) (Kd.R_far (p := ⟨gb256, 0, none⟩) (Kd.R_types HO_237001.out BK256.out (by decide)) (fun _ hk => hk.2) (.int .i64 t251)) (fun _ hk => hk.2) (.slice Ao77 t252.length co77)) (fun _ h_ => h_.1))) hb); have n2_ := aM (Kd.R_below (by (with_reducible repeat (first | apply Kd.R_alloc | apply Kd.R_drewN | apply Kd.R_drew)); exact (Kd.R_mono (Kd.R_far (p := ⟨gb256, 1, none⟩) (Kd.R_far (p := ⟨gb256, 0, none⟩) (Kd.R_types HO250.out BK256.out (by decide)) (fun _ hk => hk.2) (.int .i64 t251)) (fun _ hk => hk.2) (.slice Ao77 t252.length co77)) (fun _ h_ => h_.1))) hb); have n3_ := aM (Kd.R_below (by (with_reducible repeat (first | apply Kd.R_alloc | apply Kd.R_drewN | apply Kd.R_drew)); exact (Kd.R_mono (Kd.R_far (p := ⟨gb256, 1, none⟩) (Kd.R_far (p := ⟨gb256, 0, none⟩) (Kd.R_types HO254.out BK256.out (by decide)) (fun _ hk => hk.2) (.int .i64 t251)) (fun _ hk => hk.2) (.slice Ao77 t252.length co77)) (fun _ h_ => h_.1))) hb); have n4_ := aM (blk_below (g := gb227) (o := .cells #[.int .i64 t222, .slice Ao18 t223.length co18] 52 (0, 0)) (by (with_reducible repeat (first | refine blk_drewN ?_ _ | refine blk_drew ?_ | refine blk_alloc ?_ _)); refine blk_far ?_ NB227_256.out _; (with_reducible repeat (first | refine blk_drewN ?_ _ | refine blk_drew ?_ | refine blk_alloc ?_ _)); refine blk_far ?_ NB227_256.out _; (with_reducible repeat (first | refine blk_drewN ?_ _ | refine blk_drew ?_ | refine blk_alloc ?_ _)); exact BK227.out) hb); have n5_ := aM (blk_below (g := gb236) (o := .cells #[.int .i64 t231, .slice Ao25 t232.length co25] 52 (0, 0)) (by (with_reducible repeat (first | refine blk_drewN ?_ _ | refine blk_drew ?_ | refine blk_alloc ?_ _)); refine blk_far ?_ NB236_256.out _; (with_reducible repeat (first | refine blk_drewN ?_ _ | refine blk_drew ?_ | refine blk_alloc ?_ _)); refine blk_far ?_ NB236_256.out _; (with_reducible repeat (first | refine blk_drewN ?_ _ | refine blk_drew ?_ | refine blk_alloc ?_ _)); exact BK236.out) hb); have n6_ := aM (blk_below (g := gb256) (o := .cells #[.int .i64 t251, .slice Ao77 t252.length co77] 52 (0, 0)) (by (with_reducible repeat (first | refine blk_drewN ?_ _ | refine blk_drew ?_ | refine blk_alloc ?_ _)); refine blk_put (cs := #[.int .i64 t251, .slice none 0 0]) ?_ 1 _ rfl; (with_reducible repeat (first | refine blk_drewN ?_ _ | refine blk_drew ?_ | refine blk_alloc ?_ _)); refine blk_put (cs := #[.int .i64 0, .slice none 0 0]) ?_ 0 _ rfl; (with_reducible repeat (first | refine blk_drewN ?_ _ | refine blk_drew ?_ | refine blk_alloc ?_ _)); exact BK256.out) hb); have n7_ := aM (below_step aG hb); clear HO_228001; clear HO_237001; clear HO250; clear HO254; clear BK227; clear BK236; clear BK256; clear HB; have HO_228001 := n0_; have HO_237001 := n1_; have HO250 := n2_; have HO254 := n3_; have BK227 := n4_; have BK236 := n5_; have BK256 := n6_; have HB := n7_; clear n0_ n1_ n2_ n3_ n4_ n5_ n6_ n7_; (try clear hb); (try clear hb2); (try clear hk); (try clear hi)))
              go_meet
              case rel => exact ⟨_, (true), (by first | rfl | (simp; done) | (simp [*]; done)), H', ⟨by have := HJ10.out; have := HJ40.out; first | omega | exact Nat.le_refl _⟩, ⟨aR HO_228001⟩, ⟨aR HO_237001⟩, ⟨by (with_reducible repeat (first | apply Kd.R_alloc | apply Kd.R_drewN | apply Kd.R_drew)); exact Kd.R_mono HO254.out (fun _ hk => ⟨hk.1.2, hk.2⟩)⟩, ⟨by (with_reducible repeat (first | refine blk_drewN ?_ _ | refine blk_drew ?_ | refine blk_alloc ?_ _)); exact BK227.out⟩, ⟨by (with_reducible repeat (first | refine blk_drewN ?_ _ | refine blk_drew ?_ | refine blk_alloc ?_ _)); exact BK236.out⟩, ⟨by (with_reducible repeat (first | refine blk_drewN ?_ _ | refine blk_drew ?_ | refine blk_alloc ?_ _)); exact BK256.out⟩, ⟨by repeat (first | (with_reducible first | exact HB.out | apply below_alloc | apply pw_below_drewN | apply below_drew1 | refine below_set ?_ GE227.out | refine below_set ?_ GE236.out | refine below_set ?_ GE256.out) | exact HB.out)⟩⟩
            case rest =>
             clear HC64
             try clear c2
             try clear p2
             try clear c3
             try clear c3b0
             try clear c3b1
             try clear c4
             try clear c5
             try clear c5b0
             try clear c6
             try clear c7
             try clear c8
             try clear c9
             try clear c23
             try clear c27
             try clear c28
             try clear c31
             try clear c32
             try clear c34
             try clear c35
             try clear c36
             try clear c38
             try clear c39
             try clear c40
             try clear c41
             try clear c42
             try clear c46
             try clear c46b0
             try clear c48
             try clear c49
             try clear c53
             try clear c57
             try clear c60
             try clear c60b0
             try clear c61
             try clear c61b0
             try clear c61b1
             try clear c65
             try clear c74
             try clear c75
             try clear c79
             try clear c80
             try clear c81
             try clear c83
             try clear c86
             try clear c87
             try clear c89
             try clear hcz17_0
             try clear hcz17_1
             try clear hcz24_0
             try clear hcz24_1
             try clear hcz29_0
             try clear hcz29_1
             try clear hcz30_0
             try clear hcz30_1
             try clear hcz33_0
             try clear hcz33_1
             try clear hcz34_0
             try clear hcz34_1
             try clear hcz50_0
             try clear hcz50_1
             try clear hcz51_0
             try clear hcz51_1
             try clear hcz54_0
             try clear hcz54_1
             try clear hcz55_0
             try clear hcz55_1
             try clear hcz66_0
             try clear hcz66_1
             try clear hcz68_0
             try clear hcz68_1
             try clear hcz76_0
             try clear hcz76_1
             try clear hcz82_0
             try clear hcz82_1
             try clear hcz84_0
             try clear hcz84_1
             try clear hcz88_0
             try clear hcz88_1
             try clear hcz90_0
             try clear hcz90_1
             try clear hfz17_0
             try clear hfz17_1
             try clear hfz24_0
             try clear hfz24_1
             try clear hfz29_0
             try clear hfz29_1
             try clear hfz30_0
             try clear hfz30_1
             try clear hfz33_0
             try clear hfz33_1
             try clear hfz34_0
             try clear hfz34_1
             try clear hfz50_0
             try clear hfz50_1
             try clear hfz51_0
             try clear hfz51_1
             try clear hfz54_0
             try clear hfz54_1
             try clear hfz55_0
             try clear hfz55_1
             try clear hfz66_0
             try clear hfz66_1
             try clear hfz68_0
             try clear hfz68_1
             try clear hfz76_0
             try clear hfz76_1
             try clear hfz82_0
             try clear hfz82_1
             try clear hfz84_0
             try clear hfz84_1
             try clear hfz88_0
             try clear hfz88_1
             try clear hfz90_0
             try clear hfz90_1
             try clear p2
             obtain ⟨kq, x95_63, rfl, HA, HJ63, HO_228001, HO_237001, HO_257001, BK227, BK236, BK256, HB⟩ := hcut
             have hl237001_63 := (Kd.R_reads' HO_237001.out).1
             rw [hl237001_63] at HO_237001
             (try simp only [hl237001_63])
             (try simp only [hl237001_63] at BK227)
             (try simp only [hl237001_63] at BK236)
             (try simp only [hl237001_63] at BK256)
             (try simp only [hl237001_63] at HO_228001)
             (try simp only [hl237001_63] at HO_257001)
             cases kq with
             | zero => exact absurd HA.out (by simp [laws_FnExactParseFact.j2])
             | succ kj63 =>
              have H := HA.out
              clear HA
              simp only [laws_FnExactParseFact.j2] at H
              by_cases c92 : x95_63 = true
              ·subst c92
               have H1 : (some false) = some r := by rw [if_pos rfl] at H; exact H
               clear H
               have H := H1
               clear H1
               exact absurd (Option.some.inj (H.trans (congrArg some HRT_.out))) (by decide)
              ·replace c92 := Bool.eq_false_iff.mpr c92
               subst c92
               have H1 : ((laws_heldFact.f kj63 t231 t246 1).bind fun t258 => (if t258 < 0 then (some false) else (if t258 = t245 then (some true) else (some false)))) = some r := by rw [if_neg (show ¬ (false = true) by decide)] at H; exact H
               clear H
               have H := H1
               clear H1
               replace H := Option.bind_eq_some_iff.mp H
               obtain ⟨t258, A930, H⟩ := H
               replace H : (if t258 < 0 then (some false) else (if t258 = t245 then (some true) else (some false))) = some r := H
               have A93 := aM A930
               clear A930
               by_cases c94 : t258 < 0
               ·rw [if_pos c94] at H
                have c94b0 : decide (t258 < 0) = true := decide_eq_true c94
                clear c94
                exact absurd (Option.some.inj (H.trans (congrArg some HRT_.out))) (by decide)
               ·rw [if_neg c94] at H
                have c94b0 : decide (t258 < 0) = false := decide_eq_false c94
                clear c94
                by_cases c95 : t258 = t245
                ·rw [if_pos c95] at H
                 have c95b0 : (t258 == t245) = true := beq_iff_eq.mpr c95
                 have c95b1 : (t258 != t245) = false := bne_eq_false_iff_eq.mpr c95
                 clear c95
                 obtain rfl := Option.some.inj H
                 have hnb96 := NB236_227.out
                 have hnc96 := NB227_236.out
                 have hnb97 := NB236_256.out
                 have hnc97 := NB256_236.out
                 have hcz98_0 : wc.cell? ⟨gb236, 0, none⟩ = some (.int .i64 t231) := (blk_cell BK236.out 0).trans rfl
                 have hcz98_1 : wc.cell? ⟨gb236, 1, none⟩ = some (.slice Ao25 t246.length co25) := (blk_cell BK236.out 1).trans rfl
                 have hfz98_0 := blk_frozen BK236.out 0
                 have hfz98_1 := blk_frozen BK236.out 1
                 go_wp2_with (first | ((with_reducible refine gate_callee (f := 42) rfl ?_); refine goesL_ (some 98) rfl rfl Tryd.func42 (by kernel_rfl) rfl #[.agg #[.int .i64 t231, .slice Ao25 t246.length co25], .int .i64 1] rfl (by (try simp only [List.map_toArray, List.map_cons, List.map_nil]); first | done | rfl | (simp only [List.length_drop, List.length_take]; rfl)) ?_; (with_reducible refine (laws_heldFact.calls kj63 t231 _ _ t246 1 t258 _ ?side1 ?side2 A93.out).mono ?_); (case side1 => repeat (first | exact (Kd.R_reads' HO_237001.out).2.2 | (with_reducible refine Kd.C_alloc ?_ _) | (with_reducible refine Kd.C_drewN ?_ _) | (with_reducible refine Kd.C_drew ?_))); (case side2 => exact (Kd.R_reads' HO_237001.out).2.1); rintro e w99 ⟨rfl, hb⟩; refine ⟨_, rfl, ?_⟩; have n0_ := aM (Kd.R_below (aR HO_228001) hb); have n1_ := aM (Kd.R_below (aR HO_237001) hb); have n2_ := aM (Kd.R_below (aR HO_257001) hb); have n3_ := aM (blk_below (g := gb227) (o := .cells #[.int .i64 t222, .slice Ao18 t223.length co18] 52 (0, 0)) aK hb); have n4_ := aM (blk_below (g := gb236) (o := .cells #[.int .i64 t231, .slice Ao25 t246.length co25] 52 (0, 0)) aK hb); have n5_ := aM (blk_below (g := gb256) (o := .cells #[.int .i64 t251, .slice Ao77 t252.length co77] 52 (0, 0)) aK hb); have n6_ := aM (below_step aG hb); clear HO_228001; clear HO_237001; clear HO_257001; clear BK227; clear BK236; clear BK256; clear HB; have HO_228001 := n0_; have HO_237001 := n1_; have HO_257001 := n2_; have BK227 := n3_; have BK236 := n4_; have BK256 := n5_; have HB := n6_; clear n0_ n1_ n2_ n3_ n4_ n5_ n6_; (try clear hb); (try clear hb2); (try clear hk); (try clear hi)))
                 go_ret
                 exact ⟨by first | rfl | (simp [errW_none, errW_some] <;> rfl) | (simp [*, errW_none, errW_some] <;> rfl), by repeat (first | (with_reducible first | exact HB.out | apply below_alloc | apply pw_below_drewN | apply below_drew1 | refine below_set ?_ GE227.out | refine below_set ?_ GE236.out | refine below_set ?_ GE256.out) | exact HB.out)⟩
                ·rw [if_neg c95] at H
                 have c95b0 : (t258 == t245) = false := beq_eq_false_iff_ne.mpr c95
                 have c95b1 : (t258 != t245) = true := bne_iff_ne.mpr c95
                 exact absurd (Option.some.inj (H.trans (congrArg some HRT_.out))) (by decide)
           ·rw [if_neg c61] at H
            have c61b0 : (t247 == t245) = false := beq_eq_false_iff_ne.mpr c61
            have c61b1 : (t247 != t245) = true := bne_iff_ne.mpr c61
            exact absurd (Option.some.inj (H.trans (congrArg some HRT_.out))) (by decide)
      ·replace c39 := Bool.eq_false_iff.mpr c39
       subst c39
       have H1 : (some false) = some r := by rw [if_neg (show ¬ (false = true) by decide)] at H; exact H
       clear H
       have H := H1
       clear H1
       exact absurd (Option.some.inj (H.trans (congrArg some HRT_.out))) (by decide)

end Go.Proofs.YtdpaopfghggiaaaDoor.PFnExactParseFact
