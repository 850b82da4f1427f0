-- Laid by a program of this claim: what the functions come to, some of them proved by hand.
import Derived.Test.YtdpaopfghggiaaaDoorPFnRelationFormatx0
import Derived.Test.YtdpaopfghggiaaaDoorPFnRelationFormatx1
import Derived.Test.YtdpaopfghggiaaaDoorPFnRelationFormatx2
import Derived.Test.YtdpaopfghggiaaaDoorPFnRelationFormatx3
import Derived.Test.YtdpaopfghggiaaaDoorPFnRelationFormatx5
import Derived.Test.YtdpaopfghggiaaaDoorPFnRelationFormatx6
namespace Go.Proofs.YtdpaopfghggiaaaDoor.PFnRelationFormat
open Go.RowKit Go.Proofs.YtdpaopfghggiaaaDoorW.PrintWords Go.Proofs.YtdpaopfghggiaaaDoorW.PrintLast Go.Proofs.YtdpaopfghggiaaaDoorW.PrintMore
attribute [local go_sem] max2_int min2_int max_two min_two max_three min_three max_four min_four   -- for this text's walks alone
set_option linter.unusedVariables false
set_option linter.unusedSimpArgs false

attribute [local go_sem high] eqA28
/-! ### laws_FnRelationFormat: function 6 -/
mutual
def laws_FnRelationFormat.j0 : Nat → List (S28) → Bool → Option (Bool)
 | 0, _, _ => none
 | k + 1, x11, x69 => if x69 = true then (some false) else (laws_FnRelationFormat.l0 k x11 0)
def laws_FnRelationFormat.l0 : Nat → List (S28) → Int → Option (Bool)
 | 0, _, _ => none
 | k + 1, x11, x12 => if x12 < (x11.length : Int) then ((spec_AreValidRelations.f x11).bind fun t347 => (laws_FnRelationFormat.j2 k x11 x12 t347)) else (laws_FnRelationFormat.j2 k x11 x12 false)
def laws_FnRelationFormat.j2 : Nat → List (S28) → Int → Bool → Option (Bool)
 | 0, _, _, _ => none
 | k + 1, x11, x12, x77 => if x77 = true then (if 0 ≤ x12 then (if x12 < (x11.length : Int) then ((impl_RelationIndex.f x11 ((rd_T28 x11 x12).f0)).bind fun t349 => (if t349 = x12 then (laws_FnRelationFormat.l0 k x11 (wrap64 (x12 + 1))) else (some false))) else (none)) else (none)) else (some true)
end
def laws_FnRelationFormat.f (k : Nat) (l0 : List Int) : Option (Bool) := (laws_big.f l0).bind fun t311 => (if t311 = true then (some true) else ((spec_DrawFormatRelation.f k l0).bind fun bt312 => ((impl_FormatRelation.f bt312.1 bt312.2.1 bt312.2.2).bind fun t316 => ((impl_ParseRelation.f t316).bind fun bt317 => ((spec_DrawParseRelation.f k l0).bind fun t322 => ((impl_ParseRelation.f t322).bind fun bt323 => ((spec_ParseRelation.f k t322).bind fun bt328 => ((spec_DrawAreValidRelations.f k l0).bind fun t333 => ((spec_IsValidRelation.f bt312.1 bt312.2.1 bt312.2.2).bind fun t336 => (if (bt317.2.2.2 != t336) = true then (laws_FnRelationFormat.j0 k t333 true) else (if bt317.2.2.2 = true then (if (!(bt317.1.toList == bt312.1.toList) || (!(bt317.2.1 == bt312.2.1) || (!(bt317.2.2.1 == bt312.2.2)))) = true then (laws_FnRelationFormat.j0 k t333 true) else (if (bt323.2.2.2 != bt328.2.2.2) = true then (laws_FnRelationFormat.j0 k t333 true) else (if bt323.2.2.2 = true then ((impl_FormatRelation.f bt323.1 bt323.2.1 bt323.2.2.1).bind fun t337 => (if t337.toList = t322.toList then ((impl_AreValidRelations.f t333).bind fun t338 => ((spec_AreValidRelations.f t333).bind fun t339 => (laws_FnRelationFormat.j0 k t333 (t338 != t339)))) else (laws_FnRelationFormat.j0 k t333 true))) else ((impl_AreValidRelations.f t333).bind fun t340 => ((spec_AreValidRelations.f t333).bind fun t341 => (laws_FnRelationFormat.j0 k t333 (t340 != t341))))))) else (if (bt323.2.2.2 != bt328.2.2.2) = true then (laws_FnRelationFormat.j0 k t333 true) else (if bt323.2.2.2 = true then ((impl_FormatRelation.f bt323.1 bt323.2.1 bt323.2.2.1).bind fun t342 => (if t342.toList = t322.toList then ((impl_AreValidRelations.f t333).bind fun t343 => ((spec_AreValidRelations.f t333).bind fun t344 => (laws_FnRelationFormat.j0 k t333 (t343 != t344)))) else (laws_FnRelationFormat.j0 k t333 true))) else ((impl_AreValidRelations.f t333).bind fun t345 => ((spec_AreValidRelations.f t333).bind fun t346 => (laws_FnRelationFormat.j0 k t333 (t345 != t346)))))))))))))))))
set_option maxHeartbeats 8000000 in
set_option maxRecDepth 100000 in
theorem laws_FnRelationFormat.calls (k : Nat) (A0 : Option Addr) (c0 : Nat) (l0 : List Int) (r : Bool) (w : World) (hr0 : Kd.C (Kd.int .u8) w A0 l0.length l0) (hc0 : l0.length ≤ c0) (h : laws_FnRelationFormat.f k l0 = some r) (hr_ : r = true) (hp_ : Go.Proofs.YtdpaopfghggiaaaDoor.Shelf.Pow w) :
  Calls Tryd.prog 6 #[.slice A0 l0.length c0] w fun e w' => e = .returned (.bool r) ∧ Below w.heap.size w w' := by
 have HRT_ := aM hr_
 clear hr_
 have hu28 := Tryd.underlying28
 have HR0 := aM hr0
 have HC0 := aM hc0
 clear hr0 hc0
 have HB := aM (Below.refl w.heap.size w)
 have H : ((laws_big.f l0).bind fun t311 => (if t311 = true then (some true) else ((spec_DrawFormatRelation.f k l0).bind fun bt312 => ((impl_FormatRelation.f bt312.1 bt312.2.1 bt312.2.2).bind fun t316 => ((impl_ParseRelation.f t316).bind fun bt317 => ((spec_DrawParseRelation.f k l0).bind fun t322 => ((impl_ParseRelation.f t322).bind fun bt323 => ((spec_ParseRelation.f k t322).bind fun bt328 => ((spec_DrawAreValidRelations.f k l0).bind fun t333 => ((spec_IsValidRelation.f bt312.1 bt312.2.1 bt312.2.2).bind fun t336 => (if (bt317.2.2.2 != t336) = true then (laws_FnRelationFormat.j0 k t333 true) else (if bt317.2.2.2 = true then (if (!(bt317.1.toList == bt312.1.toList) || (!(bt317.2.1 == bt312.2.1) || (!(bt317.2.2.1 == bt312.2.2)))) = true then (laws_FnRelationFormat.j0 k t333 true) else (if (bt323.2.2.2 != bt328.2.2.2) = true then (laws_FnRelationFormat.j0 k t333 true) else (if bt323.2.2.2 = true then ((impl_FormatRelation.f bt323.1 bt323.2.1 bt323.2.2.1).bind fun t337 => (if t337.toList = t322.toList then ((impl_AreValidRelations.f t333).bind fun t338 => ((spec_AreValidRelations.f t333).bind fun t339 => (laws_FnRelationFormat.j0 k t333 (t338 != t339)))) else (laws_FnRelationFormat.j0 k t333 true))) else ((impl_AreValidRelations.f t333).bind fun t340 => ((spec_AreValidRelations.f t333).bind fun t341 => (laws_FnRelationFormat.j0 k t333 (t340 != t341))))))) else (if (bt323.2.2.2 != bt328.2.2.2) = true then (laws_FnRelationFormat.j0 k t333 true) else (if bt323.2.2.2 = true then ((impl_FormatRelation.f bt323.1 bt323.2.1 bt323.2.2.1).bind fun t342 => (if t342.toList = t322.toList then ((impl_AreValidRelations.f t333).bind fun t343 => ((spec_AreValidRelations.f t333).bind fun t344 => (laws_FnRelationFormat.j0 k t333 (t343 != t344)))) else (laws_FnRelationFormat.j0 k t333 true))) else ((impl_AreValidRelations.f t333).bind fun t345 => ((spec_AreValidRelations.f t333).bind fun t346 => (laws_FnRelationFormat.j0 k t333 (t345 != t346)))))))))))))))))) = some r := h
 clear h
 replace H := Option.bind_eq_some_iff.mp H
 obtain ⟨t311, A20, H⟩ := H
 replace H : (if t311 = true then (some true) else ((spec_DrawFormatRelation.f k l0).bind fun bt312 => ((impl_FormatRelation.f bt312.1 bt312.2.1 bt312.2.2).bind fun t316 => ((impl_ParseRelation.f t316).bind fun bt317 => ((spec_DrawParseRelation.f k l0).bind fun t322 => ((impl_ParseRelation.f t322).bind fun bt323 => ((spec_ParseRelation.f k t322).bind fun bt328 => ((spec_DrawAreValidRelations.f k l0).bind fun t333 => ((spec_IsValidRelation.f bt312.1 bt312.2.1 bt312.2.2).bind fun t336 => (if (bt317.2.2.2 != t336) = true then (laws_FnRelationFormat.j0 k t333 true) else (if bt317.2.2.2 = true then (if (!(bt317.1.toList == bt312.1.toList) || (!(bt317.2.1 == bt312.2.1) || (!(bt317.2.2.1 == bt312.2.2)))) = true then (laws_FnRelationFormat.j0 k t333 true) else (if (bt323.2.2.2 != bt328.2.2.2) = true then (laws_FnRelationFormat.j0 k t333 true) else (if bt323.2.2.2 = true then ((impl_FormatRelation.f bt323.1 bt323.2.1 bt323.2.2.1).bind fun t337 => (if t337.toList = t322.toList then ((impl_AreValidRelations.f t333).bind fun t338 => ((spec_AreValidRelations.f t333).bind fun t339 => (laws_FnRelationFormat.j0 k t333 (t338 != t339)))) else (laws_FnRelationFormat.j0 k t333 true))) else ((impl_AreValidRelations.f t333).bind fun t340 => ((spec_AreValidRelations.f t333).bind fun t341 => (laws_FnRelationFormat.j0 k t333 (t340 != t341))))))) else (if (bt323.2.2.2 != bt328.2.2.2) = true then (laws_FnRelationFormat.j0 k t333 true) else (if bt323.2.2.2 = true then ((impl_FormatRelation.f bt323.1 bt323.2.1 bt323.2.2.1).bind fun t342 => (if t342.toList = t322.toList then ((impl_AreValidRelations.f t333).bind fun t343 => ((spec_AreValidRelations.f t333).bind fun t344 => (laws_FnRelationFormat.j0 k t333 (t343 != t344)))) else (laws_FnRelationFormat.j0 k t333 true))) else ((impl_AreValidRelations.f t333).bind fun t345 => ((spec_AreValidRelations.f t333).bind fun t346 => (laws_FnRelationFormat.j0 k t333 (t345 != t346))))))))))))))))) = some r := H
 have A2 := aM A20
 clear A20
 by_cases c3 : t311 = true
 ·subst c3
  have H1 : (some true) = some r := by rw [if_pos rfl] at H; exact H
  clear H
  have H := H1
  clear H1
  obtain rfl := Option.some.inj H
  go_enter Tryd.func6, Tryd.ntmps6
  go_wp2_with (first | ((with_reducible refine gate_callee (f := 20) rfl ?_); refine goesL_ (some 14) rfl rfl Tryd.func20 (by kernel_rfl) rfl #[.slice A0 l0.length c0] rfl (by (try simp only [List.map_toArray, List.map_cons, List.map_nil]); first | done | rfl | (simp only [List.length_drop, List.length_take]; rfl)) ?_; (with_reducible refine (laws_big.calls _ _ l0 true _ ?side1 ?side2 A2.out).mono ?_); (case side1 => repeat (first | exact HR0.out | (with_reducible refine Kd.C_alloc ?_ _) | (with_reducible refine Kd.C_drewN ?_ _) | (with_reducible refine Kd.C_drew ?_))); (case side2 => exact HC0.out); rintro e w' ⟨rfl, ⟨nd, rfl⟩⟩; refine ⟨_, rfl, ?_⟩))
  go_ret
  exact ⟨by first | rfl | (simp [errW_none, errW_some] <;> rfl) | (simp [*, errW_none, errW_some] <;> rfl), by repeat (first | (with_reducible first | exact HB.out | apply below_alloc | apply pw_below_drewN | apply below_drew1) | exact HB.out)⟩
 ·replace c3 := Bool.eq_false_iff.mpr c3
  subst c3
  have H1 : ((spec_DrawFormatRelation.f k l0).bind fun bt312 => ((impl_FormatRelation.f bt312.1 bt312.2.1 bt312.2.2).bind fun t316 => ((impl_ParseRelation.f t316).bind fun bt317 => ((spec_DrawParseRelation.f k l0).bind fun t322 => ((impl_ParseRelation.f t322).bind fun bt323 => ((spec_ParseRelation.f k t322).bind fun bt328 => ((spec_DrawAreValidRelations.f k l0).bind fun t333 => ((spec_IsValidRelation.f bt312.1 bt312.2.1 bt312.2.2).bind fun t336 => (if (bt317.2.2.2 != t336) = true then (laws_FnRelationFormat.j0 k t333 true) else (if bt317.2.2.2 = true then (if (!(bt317.1.toList == bt312.1.toList) || (!(bt317.2.1 == bt312.2.1) || (!(bt317.2.2.1 == bt312.2.2)))) = true then (laws_FnRelationFormat.j0 k t333 true) else (if (bt323.2.2.2 != bt328.2.2.2) = true then (laws_FnRelationFormat.j0 k t333 true) else (if bt323.2.2.2 = true then ((impl_FormatRelation.f bt323.1 bt323.2.1 bt323.2.2.1).bind fun t337 => (if t337.toList = t322.toList then ((impl_AreValidRelations.f t333).bind fun t338 => ((spec_AreValidRelations.f t333).bind fun t339 => (laws_FnRelationFormat.j0 k t333 (t338 != t339)))) else (laws_FnRelationFormat.j0 k t333 true))) else ((impl_AreValidRelations.f t333).bind fun t340 => ((spec_AreValidRelations.f t333).bind fun t341 => (laws_FnRelationFormat.j0 k t333 (t340 != t341))))))) else (if (bt323.2.2.2 != bt328.2.2.2) = true then (laws_FnRelationFormat.j0 k t333 true) else (if bt323.2.2.2 = true then ((impl_FormatRelation.f bt323.1 bt323.2.1 bt323.2.2.1).bind fun t342 => (if t342.toList = t322.toList then ((impl_AreValidRelations.f t333).bind fun t343 => ((spec_AreValidRelations.f t333).bind fun t344 => (laws_FnRelationFormat.j0 k t333 (t343 != t344)))) else (laws_FnRelationFormat.j0 k t333 true))) else ((impl_AreValidRelations.f t333).bind fun t345 => ((spec_AreValidRelations.f t333).bind fun t346 => (laws_FnRelationFormat.j0 k t333 (t345 != t346)))))))))))))))) = some r := by rw [if_neg (show ¬ (false = true) by decide)] at H; exact H
  clear H
  have H := H1
  clear H1
  replace H := Option.bind_eq_some_iff.mp H
  obtain ⟨⟨t312, t313, t314⟩, A40, H⟩ := H
  replace H : ((impl_FormatRelation.f t312 t313 t314).bind fun t316 => ((impl_ParseRelation.f t316).bind fun bt317 => ((spec_DrawParseRelation.f k l0).bind fun t322 => ((impl_ParseRelation.f t322).bind fun bt323 => ((spec_ParseRelation.f k t322).bind fun bt328 => ((spec_DrawAreValidRelations.f k l0).bind fun t333 => ((spec_IsValidRelation.f t312 t313 t314).bind fun t336 => (if (bt317.2.2.2 != t336) = true then (laws_FnRelationFormat.j0 k t333 true) else (if bt317.2.2.2 = true then (if (!(bt317.1.toList == t312.toList) || (!(bt317.2.1 == t313) || (!(bt317.2.2.1 == t314)))) = true then (laws_FnRelationFormat.j0 k t333 true) else (if (bt323.2.2.2 != bt328.2.2.2) = true then (laws_FnRelationFormat.j0 k t333 true) else (if bt323.2.2.2 = true then ((impl_FormatRelation.f bt323.1 bt323.2.1 bt323.2.2.1).bind fun t337 => (if t337.toList = t322.toList then ((impl_AreValidRelations.f t333).bind fun t338 => ((spec_AreValidRelations.f t333).bind fun t339 => (laws_FnRelationFormat.j0 k t333 (t338 != t339)))) else (laws_FnRelationFormat.j0 k t333 true))) else ((impl_AreValidRelations.f t333).bind fun t340 => ((spec_AreValidRelations.f t333).bind fun t341 => (laws_FnRelationFormat.j0 k t333 (t340 != t341))))))) else (if (bt323.2.2.2 != bt328.2.2.2) = true then (laws_FnRelationFormat.j0 k t333 true) else (if bt323.2.2.2 = true then ((impl_FormatRelation.f bt323.1 bt323.2.1 bt323.2.2.1).bind fun t342 => (if t342.toList = t322.toList then ((impl_AreValidRelations.f t333).bind fun t343 => ((spec_AreValidRelations.f t333).bind fun t344 => (laws_FnRelationFormat.j0 k t333 (t343 != t344)))) else (laws_FnRelationFormat.j0 k t333 true))) else ((impl_AreValidRelations.f t333).bind fun t345 => ((spec_AreValidRelations.f t333).bind fun t346 => (laws_FnRelationFormat.j0 k t333 (t345 != t346))))))))))))))) = some r := H
  have A4 := aM A40
  clear A40
  replace H := Option.bind_eq_some_iff.mp H
  obtain ⟨t316, A50, H⟩ := H
  replace H : ((impl_ParseRelation.f t316).bind fun bt317 => ((spec_DrawParseRelation.f k l0).bind fun t322 => ((impl_ParseRelation.f t322).bind fun bt323 => ((spec_ParseRelation.f k t322).bind fun bt328 => ((spec_DrawAreValidRelations.f k l0).bind fun t333 => ((spec_IsValidRelation.f t312 t313 t314).bind fun t336 => (if (bt317.2.2.2 != t336) = true then (laws_FnRelationFormat.j0 k t333 true) else (if bt317.2.2.2 = true then (if (!(bt317.1.toList == t312.toList) || (!(bt317.2.1 == t313) || (!(bt317.2.2.1 == t314)))) = true then (laws_FnRelationFormat.j0 k t333 true) else (if (bt323.2.2.2 != bt328.2.2.2) = true then (laws_FnRelationFormat.j0 k t333 true) else (if bt323.2.2.2 = true then ((impl_FormatRelation.f bt323.1 bt323.2.1 bt323.2.2.1).bind fun t337 => (if t337.toList = t322.toList then ((impl_AreValidRelations.f t333).bind fun t338 => ((spec_AreValidRelations.f t333).bind fun t339 => (laws_FnRelationFormat.j0 k t333 (t338 != t339)))) else (laws_FnRelationFormat.j0 k t333 true))) else ((impl_AreValidRelations.f t333).bind fun t340 => ((spec_AreValidRelations.f t333).bind fun t341 => (laws_FnRelationFormat.j0 k t333 (t340 != t341))))))) else (if (bt323.2.2.2 != bt328.2.2.2) = true then (laws_FnRelationFormat.j0 k t333 true) else (if bt323.2.2.2 = true then ((impl_FormatRelation.f bt323.1 bt323.2.1 bt323.2.2.1).bind fun t342 => (if t342.toList = t322.toList then ((impl_AreValidRelations.f t333).bind fun t343 => ((spec_AreValidRelations.f t333).bind fun t344 => (laws_FnRelationFormat.j0 k t333 (t343 != t344)))) else (laws_FnRelationFormat.j0 k t333 true))) else ((impl_AreValidRelations.f t333).bind fun t345 => ((spec_AreValidRelations.f t333).bind fun t346 => (laws_FnRelationFormat.j0 k t333 (t345 != t346)))))))))))))) = some r := H
  have A5 := aM A50
  clear A50
  replace H := Option.bind_eq_some_iff.mp H
  obtain ⟨⟨t317, t318, t319, t320⟩, A60, H⟩ := H
  replace H : ((spec_DrawParseRelation.f k l0).bind fun t322 => ((impl_ParseRelation.f t322).bind fun bt323 => ((spec_ParseRelation.f k t322).bind fun bt328 => ((spec_DrawAreValidRelations.f k l0).bind fun t333 => ((spec_IsValidRelation.f t312 t313 t314).bind fun t336 => (if (t320 != t336) = true then (laws_FnRelationFormat.j0 k t333 true) else (if t320 = true then (if (!(t317.toList == t312.toList) || (!(t318 == t313) || (!(t319 == t314)))) = true then (laws_FnRelationFormat.j0 k t333 true) else (if (bt323.2.2.2 != bt328.2.2.2) = true then (laws_FnRelationFormat.j0 k t333 true) else (if bt323.2.2.2 = true then ((impl_FormatRelation.f bt323.1 bt323.2.1 bt323.2.2.1).bind fun t337 => (if t337.toList = t322.toList then ((impl_AreValidRelations.f t333).bind fun t338 => ((spec_AreValidRelations.f t333).bind fun t339 => (laws_FnRelationFormat.j0 k t333 (t338 != t339)))) else (laws_FnRelationFormat.j0 k t333 true))) else ((impl_AreValidRelations.f t333).bind fun t340 => ((spec_AreValidRelations.f t333).bind fun t341 => (laws_FnRelationFormat.j0 k t333 (t340 != t341))))))) else (if (bt323.2.2.2 != bt328.2.2.2) = true then (laws_FnRelationFormat.j0 k t333 true) else (if bt323.2.2.2 = true then ((impl_FormatRelation.f bt323.1 bt323.2.1 bt323.2.2.1).bind fun t342 => (if t342.toList = t322.toList then ((impl_AreValidRelations.f t333).bind fun t343 => ((spec_AreValidRelations.f t333).bind fun t344 => (laws_FnRelationFormat.j0 k t333 (t343 != t344)))) else (laws_FnRelationFormat.j0 k t333 true))) else ((impl_AreValidRelations.f t333).bind fun t345 => ((spec_AreValidRelations.f t333).bind fun t346 => (laws_FnRelationFormat.j0 k t333 (t345 != t346))))))))))))) = some r := H
  have A6 := aM A60
  clear A60
  replace H := Option.bind_eq_some_iff.mp H
  obtain ⟨t322, A70, H⟩ := H
  replace H : ((impl_ParseRelation.f t322).bind fun bt323 => ((spec_ParseRelation.f k t322).bind fun bt328 => ((spec_DrawAreValidRelations.f k l0).bind fun t333 => ((spec_IsValidRelation.f t312 t313 t314).bind fun t336 => (if (t320 != t336) = true then (laws_FnRelationFormat.j0 k t333 true) else (if t320 = true then (if (!(t317.toList == t312.toList) || (!(t318 == t313) || (!(t319 == t314)))) = true then (laws_FnRelationFormat.j0 k t333 true) else (if (bt323.2.2.2 != bt328.2.2.2) = true then (laws_FnRelationFormat.j0 k t333 true) else (if bt323.2.2.2 = true then ((impl_FormatRelation.f bt323.1 bt323.2.1 bt323.2.2.1).bind fun t337 => (if t337.toList = t322.toList then ((impl_AreValidRelations.f t333).bind fun t338 => ((spec_AreValidRelations.f t333).bind fun t339 => (laws_FnRelationFormat.j0 k t333 (t338 != t339)))) else (laws_FnRelationFormat.j0 k t333 true))) else ((impl_AreValidRelations.f t333).bind fun t340 => ((spec_AreValidRelations.f t333).bind fun t341 => (laws_FnRelationFormat.j0 k t333 (t340 != t341))))))) else (if (bt323.2.2.2 != bt328.2.2.2) = true then (laws_FnRelationFormat.j0 k t333 true) else (if bt323.2.2.2 = true then ((impl_FormatRelation.f bt323.1 bt323.2.1 bt323.2.2.1).bind fun t342 => (if t342.toList = t322.toList then ((impl_AreValidRelations.f t333).bind fun t343 => ((spec_AreValidRelations.f t333).bind fun t344 => (laws_FnRelationFormat.j0 k t333 (t343 != t344)))) else (laws_FnRelationFormat.j0 k t333 true))) else ((impl_AreValidRelations.f t333).bind fun t345 => ((spec_AreValidRelations.f t333).bind fun t346 => (laws_FnRelationFormat.j0 k t333 (t345 != t346)))))))))))) = some r := H
  have A7 := aM A70
  clear A70
  replace H := Option.bind_eq_some_iff.mp H
  obtain ⟨⟨t323, t324, t325, t326⟩, A80, H⟩ := H
  replace H : ((spec_ParseRelation.f k t322).bind fun bt328 => ((spec_DrawAreValidRelations.f k l0).bind fun t333 => ((spec_IsValidRelation.f t312 t313 t314).bind fun t336 => (if (t320 != t336) = true then (laws_FnRelationFormat.j0 k t333 true) else (if t320 = true then (if (!(t317.toList == t312.toList) || (!(t318 == t313) || (!(t319 == t314)))) = true then (laws_FnRelationFormat.j0 k t333 true) else (if (t326 != bt328.2.2.2) = true then (laws_FnRelationFormat.j0 k t333 true) else (if t326 = true then ((impl_FormatRelation.f t323 t324 t325).bind fun t337 => (if t337.toList = t322.toList then ((impl_AreValidRelations.f t333).bind fun t338 => ((spec_AreValidRelations.f t333).bind fun t339 => (laws_FnRelationFormat.j0 k t333 (t338 != t339)))) else (laws_FnRelationFormat.j0 k t333 true))) else ((impl_AreValidRelations.f t333).bind fun t340 => ((spec_AreValidRelations.f t333).bind fun t341 => (laws_FnRelationFormat.j0 k t333 (t340 != t341))))))) else (if (t326 != bt328.2.2.2) = true then (laws_FnRelationFormat.j0 k t333 true) else (if t326 = true then ((impl_FormatRelation.f t323 t324 t325).bind fun t342 => (if t342.toList = t322.toList then ((impl_AreValidRelations.f t333).bind fun t343 => ((spec_AreValidRelations.f t333).bind fun t344 => (laws_FnRelationFormat.j0 k t333 (t343 != t344)))) else (laws_FnRelationFormat.j0 k t333 true))) else ((impl_AreValidRelations.f t333).bind fun t345 => ((spec_AreValidRelations.f t333).bind fun t346 => (laws_FnRelationFormat.j0 k t333 (t345 != t346))))))))))) = some r := H
  have A8 := aM A80
  clear A80
  replace H := Option.bind_eq_some_iff.mp H
  obtain ⟨⟨t328, t329, t330, t331⟩, A90, H⟩ := H
  replace H : ((spec_DrawAreValidRelations.f k l0).bind fun t333 => ((spec_IsValidRelation.f t312 t313 t314).bind fun t336 => (if (t320 != t336) = true then (laws_FnRelationFormat.j0 k t333 true) else (if t320 = true then (if (!(t317.toList == t312.toList) || (!(t318 == t313) || (!(t319 == t314)))) = true then (laws_FnRelationFormat.j0 k t333 true) else (if (t326 != t331) = true then (laws_FnRelationFormat.j0 k t333 true) else (if t326 = true then ((impl_FormatRelation.f t323 t324 t325).bind fun t337 => (if t337.toList = t322.toList then ((impl_AreValidRelations.f t333).bind fun t338 => ((spec_AreValidRelations.f t333).bind fun t339 => (laws_FnRelationFormat.j0 k t333 (t338 != t339)))) else (laws_FnRelationFormat.j0 k t333 true))) else ((impl_AreValidRelations.f t333).bind fun t340 => ((spec_AreValidRelations.f t333).bind fun t341 => (laws_FnRelationFormat.j0 k t333 (t340 != t341))))))) else (if (t326 != t331) = true then (laws_FnRelationFormat.j0 k t333 true) else (if t326 = true then ((impl_FormatRelation.f t323 t324 t325).bind fun t342 => (if t342.toList = t322.toList then ((impl_AreValidRelations.f t333).bind fun t343 => ((spec_AreValidRelations.f t333).bind fun t344 => (laws_FnRelationFormat.j0 k t333 (t343 != t344)))) else (laws_FnRelationFormat.j0 k t333 true))) else ((impl_AreValidRelations.f t333).bind fun t345 => ((spec_AreValidRelations.f t333).bind fun t346 => (laws_FnRelationFormat.j0 k t333 (t345 != t346)))))))))) = some r := H
  have A9 := aM A90
  clear A90
  replace H := Option.bind_eq_some_iff.mp H
  obtain ⟨t333, A100, H⟩ := H
  replace H : ((spec_IsValidRelation.f t312 t313 t314).bind fun t336 => (if (t320 != t336) = true then (laws_FnRelationFormat.j0 k t333 true) else (if t320 = true then (if (!(t317.toList == t312.toList) || (!(t318 == t313) || (!(t319 == t314)))) = true then (laws_FnRelationFormat.j0 k t333 true) else (if (t326 != t331) = true then (laws_FnRelationFormat.j0 k t333 true) else (if t326 = true then ((impl_FormatRelation.f t323 t324 t325).bind fun t337 => (if t337.toList = t322.toList then ((impl_AreValidRelations.f t333).bind fun t338 => ((spec_AreValidRelations.f t333).bind fun t339 => (laws_FnRelationFormat.j0 k t333 (t338 != t339)))) else (laws_FnRelationFormat.j0 k t333 true))) else ((impl_AreValidRelations.f t333).bind fun t340 => ((spec_AreValidRelations.f t333).bind fun t341 => (laws_FnRelationFormat.j0 k t333 (t340 != t341))))))) else (if (t326 != t331) = true then (laws_FnRelationFormat.j0 k t333 true) else (if t326 = true then ((impl_FormatRelation.f t323 t324 t325).bind fun t342 => (if t342.toList = t322.toList then ((impl_AreValidRelations.f t333).bind fun t343 => ((spec_AreValidRelations.f t333).bind fun t344 => (laws_FnRelationFormat.j0 k t333 (t343 != t344)))) else (laws_FnRelationFormat.j0 k t333 true))) else ((impl_AreValidRelations.f t333).bind fun t345 => ((spec_AreValidRelations.f t333).bind fun t346 => (laws_FnRelationFormat.j0 k t333 (t345 != t346))))))))) = some r := H
  have A10 := aM A100
  clear A100
  have HC11 := aM H
  clear H
  go_enter Tryd.func6, Tryd.ntmps6
  go_upto_region 9 with (first | ((with_reducible refine gate_callee (f := 20) rfl ?_); refine goesL_ (some 14) rfl rfl Tryd.func20 (by kernel_rfl) rfl #[.slice A0 l0.length c0] rfl (by (try simp only [List.map_toArray, List.map_cons, List.map_nil]); first | done | rfl | (simp only [List.length_drop, List.length_take]; rfl)) ?_; (with_reducible refine (laws_big.calls _ _ l0 false _ ?side1 ?side2 A2.out).mono ?_); (case side1 => repeat (first | exact HR0.out | (with_reducible refine Kd.C_alloc ?_ _) | (with_reducible refine Kd.C_drewN ?_ _) | (with_reducible refine Kd.C_drew ?_))); (case side2 => exact HC0.out); rintro e w' ⟨rfl, ⟨nd, rfl⟩⟩; refine ⟨_, rfl, ?_⟩) | ((with_reducible refine gate_callee (f := 21) rfl ?_); refine goesL_ (some 16) rfl rfl Tryd.func21 (by kernel_rfl) rfl #[.slice A0 l0.length c0] rfl (by (try simp only [List.map_toArray, List.map_cons, List.map_nil]); first | done | rfl | (simp only [List.length_drop, List.length_take]; rfl)) ?_; (with_reducible refine (spec_DrawFormatRelation.calls k _ _ l0 t312 t313 t314 _ ?side1 ?side2 A4.out).mono ?_); (case side1 => repeat (first | exact HR0.out | (with_reducible refine Kd.C_alloc ?_ _) | (with_reducible refine Kd.C_drewN ?_ _) | (with_reducible refine Kd.C_drew ?_))); (case side2 => exact HC0.out); rintro e w12 ⟨rfl, hb⟩; refine ⟨_, rfl, ?_⟩; have n0_ := aM (below_step aB hb); clear HB; have HB := n0_; clear n0_; (try clear hb); (try clear hb2); (try clear hk); (try clear hi)) | ((with_reducible refine gate_dst (N := 3) rfl ?_); refine box_event ?hg (N := 3) ?hd (cs := #[.string (⟨#[]⟩ : ByteArray), .int .i64 0, .int .i64 0]) (t := 28) ?hr ?_; (case hd => rfl); (case hg => rfl); (case hr => first | (go_simp; done) | (go_simp; rfl)); intro gb315 hg w13 hbox hb; have n0_ := aM (below_step aB hb); have n1_ := aM (hbox); have n2_ := aM ((by rw [hg]; exact (below_size aB) : w.heap.size ≤ gb315)); have n3_ := aM ((by rw [hg]; exact (below_size aB) : w.heap.size ≤ gb315)); clear HB; have HB := n0_; have BK315 := n1_; have GW315 := n2_; have GE315 := n3_; clear n0_ n1_ n2_ n3_; clear hb hbox hg; have hcz14_0 : w13.cell? ⟨gb315, 0, none⟩ = some (.string (⟨#[]⟩ : ByteArray)) := (blk_cell BK315.out 0).trans rfl; have hcz14_1 : w13.cell? ⟨gb315, 1, none⟩ = some (.int .i64 0) := (blk_cell BK315.out 1).trans rfl; have hcz14_2 : w13.cell? ⟨gb315, 2, none⟩ = some (.int .i64 0) := (blk_cell BK315.out 2).trans rfl; have hfz14_0 := blk_frozen BK315.out 0; have hfz14_1 := blk_frozen BK315.out 1; have hfz14_2 := blk_frozen BK315.out 2) | ((with_reducible refine gate_callee (f := 16) rfl ?_); refine goesL_ (some 19) rfl rfl Tryd.func16 (by kernel_rfl) rfl #[.agg #[.string t312, .int .i64 t313, .int .i64 t314]] rfl (by (try simp only [List.map_toArray, List.map_cons, List.map_nil]); first | done | rfl | (simp only [List.length_drop, List.length_take]; rfl)) ?_; (with_reducible refine (impl_FormatRelation.calls t312 t313 t314 t316 _ A5.out (hp_.on (by repeat (first | (with_reducible first | exact HB.out | apply below_alloc | apply pw_below_drewN | apply below_drew1 | refine below_set ?_ GE315.out | refine below_set ?_ GE321.out | refine below_set ?_ GE327.out | refine below_set ?_ GE332.out) | exact HB.out)))).mono ?_); rintro e w15 ⟨rfl, hb⟩; refine ⟨_, rfl, ?_⟩; have n0_ := aM (blk_below (g := gb315) (o := .cells #[.string t312, .int .i64 t313, .int .i64 t314] 28 (0, 0)) (by (with_reducible repeat (first | refine blk_drewN ?_ _ | refine blk_drew ?_ | refine blk_alloc ?_ _)); refine blk_put (cs := #[.string t312, .int .i64 t313, .int .i64 0]) ?_ 2 _ rfl; (with_reducible repeat (first | refine blk_drewN ?_ _ | refine blk_drew ?_ | refine blk_alloc ?_ _)); refine blk_put (cs := #[.string t312, .int .i64 0, .int .i64 0]) ?_ 1 _ rfl; (with_reducible repeat (first | refine blk_drewN ?_ _ | refine blk_drew ?_ | refine blk_alloc ?_ _)); refine blk_put (cs := #[.string (⟨#[]⟩ : ByteArray), .int .i64 0, .int .i64 0]) ?_ 0 _ rfl; (with_reducible repeat (first | refine blk_drewN ?_ _ | refine blk_drew ?_ | refine blk_alloc ?_ _)); exact BK315.out) hb); have n1_ := aM (below_step aG hb); clear BK315; clear HB; have BK315 := n0_; have HB := n1_; clear n0_ n1_; (try clear hb); (try clear hb2); (try clear hk); (try clear hi)) | ((with_reducible refine gate_callee (f := 18) rfl ?_); refine goesL_ (some 20) rfl rfl Tryd.func18 (by kernel_rfl) rfl #[.string t316] rfl (by (try simp only [List.map_toArray, List.map_cons, List.map_nil]); first | done | rfl | (simp only [List.length_drop, List.length_take]; rfl)) ?_; (with_reducible refine (impl_ParseRelation.calls t316 t317 t318 t319 t320 _ A6.out (hp_.on (by repeat (first | (with_reducible first | exact HB.out | apply below_alloc | apply pw_below_drewN | apply below_drew1 | refine below_set ?_ GE315.out | refine below_set ?_ GE321.out | refine below_set ?_ GE327.out | refine below_set ?_ GE332.out) | exact HB.out)))).mono ?_); rintro e w16 ⟨rfl, hb⟩; refine ⟨_, rfl, ?_⟩; have n0_ := aM (blk_below (g := gb315) (o := .cells #[.string t312, .int .i64 t313, .int .i64 t314] 28 (0, 0)) aK hb); have n1_ := aM (below_step aG hb); clear BK315; clear HB; have BK315 := n0_; have HB := n1_; clear n0_ n1_; (try clear hb); (try clear hb2); (try clear hk); (try clear hi)) | ((with_reducible refine gate_dst (N := 4) rfl ?_); refine box_event ?hg (N := 4) ?hd (cs := #[.string (⟨#[]⟩ : ByteArray), .int .i64 0, .int .i64 0]) (t := 28) ?hr ?_; (case hd => rfl); (case hg => rfl); (case hr => first | (go_simp; done) | (go_simp; rfl)); intro gb321 hg w17 hbox hb; have n0_ := aM (blk_below (g := gb315) (o := .cells #[.string t312, .int .i64 t313, .int .i64 t314] 28 (0, 0)) aK hb); have n1_ := aM (below_step aG hb); have n2_ := aM (hbox); have n3_ := aM ((by rw [hg]; exact (below_size aG) : w.heap.size ≤ gb321)); have n4_ := aM ((by rw [hg]; exact (below_size aG) : w.heap.size ≤ gb321)); have n5_ := aM ((by rw [hg]; exact Nat.ne_of_lt (blk_lt (g := gb315) (o := .cells #[.string t312, .int .i64 t313, .int .i64 t314] 28 (0, 0)) aK) : gb315 ≠ gb321)); have n6_ := aM ((by rw [hg]; exact Nat.ne_of_gt (blk_lt (g := gb315) (o := .cells #[.string t312, .int .i64 t313, .int .i64 t314] 28 (0, 0)) aK) : gb321 ≠ gb315)); clear BK315; clear HB; have BK315 := n0_; have HB := n1_; have BK321 := n2_; have GW321 := n3_; have GE321 := n4_; have NB315_321 := n5_; have NB321_315 := n6_; clear n0_ n1_ n2_ n3_ n4_ n5_ n6_; clear hb hbox hg; have hnb18 := NB321_315.out; have hnc18 := NB315_321.out; have hcz19_0 : w17.cell? ⟨gb321, 0, none⟩ = some (.string (⟨#[]⟩ : ByteArray)) := (blk_cell BK321.out 0).trans rfl; have hcz19_1 : w17.cell? ⟨gb321, 1, none⟩ = some (.int .i64 0) := (blk_cell BK321.out 1).trans rfl; have hcz19_2 : w17.cell? ⟨gb321, 2, none⟩ = some (.int .i64 0) := (blk_cell BK321.out 2).trans rfl; have hfz19_0 := blk_frozen BK321.out 0; have hfz19_1 := blk_frozen BK321.out 1; have hfz19_2 := blk_frozen BK321.out 2) | ((with_reducible refine gate_callee (f := 22) rfl ?_); refine goesL_ (some 24) rfl rfl Tryd.func22 (by kernel_rfl) rfl #[.slice A0 l0.length c0] rfl (by (try simp only [List.map_toArray, List.map_cons, List.map_nil]); first | done | rfl | (simp only [List.length_drop, List.length_take]; rfl)) ?_; (with_reducible refine (spec_DrawParseRelation.calls k _ _ l0 t322 _ ?side1 ?side2 A7.out).mono ?_); (case side1 => exact Kd.C_below HR0.out aG); (case side2 => exact HC0.out); rintro e w20 ⟨rfl, hb⟩; refine ⟨_, rfl, ?_⟩; have n0_ := aM (blk_below (g := gb315) (o := .cells #[.string t312, .int .i64 t313, .int .i64 t314] 28 (0, 0)) (by (with_reducible repeat (first | refine blk_drewN ?_ _ | refine blk_drew ?_ | refine blk_alloc ?_ _)); refine blk_far ?_ NB315_321.out _; (with_reducible repeat (first | refine blk_drewN ?_ _ | refine blk_drew ?_ | refine blk_alloc ?_ _)); refine blk_far ?_ NB315_321.out _; (with_reducible repeat (first | refine blk_drewN ?_ _ | refine blk_drew ?_ | refine blk_alloc ?_ _)); refine blk_far ?_ NB315_321.out _; (with_reducible repeat (first | refine blk_drewN ?_ _ | refine blk_drew ?_ | refine blk_alloc ?_ _)); exact BK315.out) hb); have n1_ := aM (blk_below (g := gb321) (o := .cells #[.string t317, .int .i64 t318, .int .i64 t319] 28 (0, 0)) (by (with_reducible repeat (first | refine blk_drewN ?_ _ | refine blk_drew ?_ | refine blk_alloc ?_ _)); refine blk_put (cs := #[.string t317, .int .i64 t318, .int .i64 0]) ?_ 2 _ rfl; (with_reducible repeat (first | refine blk_drewN ?_ _ | refine blk_drew ?_ | refine blk_alloc ?_ _)); refine blk_put (cs := #[.string t317, .int .i64 0, .int .i64 0]) ?_ 1 _ rfl; (with_reducible repeat (first | refine blk_drewN ?_ _ | refine blk_drew ?_ | refine blk_alloc ?_ _)); refine blk_put (cs := #[.string (⟨#[]⟩ : ByteArray), .int .i64 0, .int .i64 0]) ?_ 0 _ rfl; (with_reducible repeat (first | refine blk_drewN ?_ _ | refine blk_drew ?_ | refine blk_alloc ?_ _)); exact BK321.out) hb); have n2_ := aM (below_step aG hb); clear BK315; clear BK321; clear HB; have BK315 := n0_; have BK321 := n1_; have HB := n2_; clear n0_ n1_ n2_; (try clear hb); (try clear hb2); (try clear hk); (try clear hi)) | ((with_reducible refine gate_callee (f := 18) rfl ?_); refine goesL_ (some 27) rfl rfl Tryd.func18 (by kernel_rfl) rfl #[.string t322] rfl (by (try simp only [List.map_toArray, List.map_cons, List.map_nil]); first | done | rfl | (simp only [List.length_drop, List.length_take]; rfl)) ?_; (with_reducible refine (impl_ParseRelation.calls t322 t323 t324 t325 t326 _ A8.out (hp_.on (by repeat (first | (with_reducible first | exact HB.out | apply below_alloc | apply pw_below_drewN | apply below_drew1 | refine below_set ?_ GE315.out | refine below_set ?_ GE321.out | refine below_set ?_ GE327.out | refine below_set ?_ GE332.out) | exact HB.out)))).mono ?_); rintro e w21 ⟨rfl, hb⟩; refine ⟨_, rfl, ?_⟩; have n0_ := aM (blk_below (g := gb315) (o := .cells #[.string t312, .int .i64 t313, .int .i64 t314] 28 (0, 0)) aK hb); have n1_ := aM (blk_below (g := gb321) (o := .cells #[.string t317, .int .i64 t318, .int .i64 t319] 28 (0, 0)) aK hb); have n2_ := aM (below_step aG hb); clear BK315; clear BK321; clear HB; have BK315 := n0_; have BK321 := n1_; have HB := n2_; clear n0_ n1_ n2_; (try clear hb); (try clear hb2); (try clear hk); (try clear hi)) | ((with_reducible refine gate_dst (N := 7) rfl ?_); refine box_event ?hg (N := 7) ?hd (cs := #[.string (⟨#[]⟩ : ByteArray), .int .i64 0, .int .i64 0]) (t := 28) ?hr ?_; (case hd => rfl); (case hg => rfl); (case hr => first | (go_simp; done) | (go_simp; rfl)); intro gb327 hg w22 hbox hb; have n0_ := aM (blk_below (g := gb315) (o := .cells #[.string t312, .int .i64 t313, .int .i64 t314] 28 (0, 0)) aK hb); have n1_ := aM (blk_below (g := gb321) (o := .cells #[.string t317, .int .i64 t318, .int .i64 t319] 28 (0, 0)) aK hb); have n2_ := aM (below_step aG hb); have n3_ := aM (hbox); have n4_ := aM ((by rw [hg]; exact (below_size aG) : w.heap.size ≤ gb327)); have n5_ := aM ((by rw [hg]; exact (below_size aG) : w.heap.size ≤ gb327)); have n6_ := aM ((by rw [hg]; exact Nat.ne_of_lt (blk_lt (g := gb315) (o := .cells #[.string t312, .int .i64 t313, .int .i64 t314] 28 (0, 0)) aK) : gb315 ≠ gb327)); have n7_ := aM ((by rw [hg]; exact Nat.ne_of_gt (blk_lt (g := gb315) (o := .cells #[.string t312, .int .i64 t313, .int .i64 t314] 28 (0, 0)) aK) : gb327 ≠ gb315)); have n8_ := aM ((by rw [hg]; exact Nat.ne_of_lt (blk_lt (g := gb321) (o := .cells #[.string t317, .int .i64 t318, .int .i64 t319] 28 (0, 0)) aK) : gb321 ≠ gb327)); have n9_ := aM ((by rw [hg]; exact Nat.ne_of_gt (blk_lt (g := gb321) (o := .cells #[.string t317, .int .i64 t318, .int .i64 t319] 28 (0, 0)) aK) : gb327 ≠ gb321)); clear BK315; clear BK321; clear HB; have BK315 := n0_; have BK321 := n1_; have HB := n2_; have BK327 := n3_; have GW327 := n4_; have GE327 := n5_; have NB315_327 := n6_; have NB327_315 := n7_; have NB321_327 := n8_; have NB327_321 := n9_; clear n0_ n1_ n2_ n3_ n4_ n5_ n6_ n7_ n8_ n9_; clear hb hbox hg; have hnb23 := NB327_315.out; have hnc23 := NB315_327.out; have hnb24 := NB327_321.out; have hnc24 := NB321_327.out; have hcz25_0 : w22.cell? ⟨gb327, 0, none⟩ = some (.string (⟨#[]⟩ : ByteArray)) := (blk_cell BK327.out 0).trans rfl; have hcz25_1 : w22.cell? ⟨gb327, 1, none⟩ = some (.int .i64 0) := (blk_cell BK327.out 1).trans rfl; have hcz25_2 : w22.cell? ⟨gb327, 2, none⟩ = some (.int .i64 0) := (blk_cell BK327.out 2).trans rfl; have hfz25_0 := blk_frozen BK327.out 0; have hfz25_1 := blk_frozen BK327.out 1; have hfz25_2 := blk_frozen BK327.out 2) | ((with_reducible refine gate_callee (f := 17) rfl ?_); refine goesL_ (some 32) rfl rfl Tryd.func17 (by kernel_rfl) rfl #[.string t322] rfl (by (try simp only [List.map_toArray, List.map_cons, List.map_nil]); first | done | rfl | (simp only [List.length_drop, List.length_take]; rfl)) ?_; (with_reducible refine (spec_ParseRelation.calls k t322 t328 t329 t330 t331 _ A9.out).mono ?_); rintro e w26 ⟨rfl, hb⟩; refine ⟨_, rfl, ?_⟩; have n0_ := aM (blk_below (g := gb315) (o := .cells #[.string t312, .int .i64 t313, .int .i64 t314] 28 (0, 0)) (by (with_reducible repeat (first | refine blk_drewN ?_ _ | refine blk_drew ?_ | refine blk_alloc ?_ _)); refine blk_far ?_ NB315_327.out _; (with_reducible repeat (first | refine blk_drewN ?_ _ | refine blk_drew ?_ | refine blk_alloc ?_ _)); refine blk_far ?_ NB315_327.out _; (with_reducible repeat (first | refine blk_drewN ?_ _ | refine blk_drew ?_ | refine blk_alloc ?_ _)); refine blk_far ?_ NB315_327.out _; (with_reducible repeat (first | refine blk_drewN ?_ _ | refine blk_drew ?_ | refine blk_alloc ?_ _)); exact BK315.out) hb); have n1_ := aM (blk_below (g := gb321) (o := .cells #[.string t317, .int .i64 t318, .int .i64 t319] 28 (0, 0)) (by (with_reducible repeat (first | refine blk_drewN ?_ _ | refine blk_drew ?_ | refine blk_alloc ?_ _)); refine blk_far ?_ NB321_327.out _; (with_reducible repeat (first | refine blk_drewN ?_ _ | refine blk_drew ?_ | refine blk_alloc ?_ _)); refine blk_far ?_ NB321_327.out _; (with_reducible repeat (first | refine blk_drewN ?_ _ | refine blk_drew ?_ | refine blk_alloc ?_ _)); refine blk_far ?_ NB321_327.out _; (with_reducible repeat (first | refine blk_drewN ?_ _ | refine blk_drew ?_ | refine blk_alloc ?_ _)); exact BK321.out) hb); have n2_ := aM (blk_below (g := gb327) (o := .cells #[.string t323, .int .i64 t324, .int .i64 t325] 28 (0, 0)) (by (with_reducible repeat (first | refine blk_drewN ?_ _ | refine blk_drew ?_ | refine blk_alloc ?_ _)); refine blk_put (cs := #[.string t323, .int .i64 t324, .int .i64 0]) ?_ 2 _ rfl; (with_reducible repeat (first | refine blk_drewN ?_ _ | refine blk_drew ?_ | refine blk_alloc ?_ _)); refine blk_put (cs := #[.string t323, .int .i64 0, .int .i64 0]) ?_ 1 _ rfl; (with_reducible repeat (first | refine blk_drewN ?_ _ | refine blk_drew ?_ | refine blk_alloc ?_ _)); refine blk_put (cs := #[.string (⟨#[]⟩ : ByteArray), .int .i64 0, .int .i64 0]) ?_ 0 _ rfl; (with_reducible repeat (first | refine blk_drewN ?_ _ | refine blk_drew ?_ | refine blk_alloc ?_ _)); exact BK327.out) hb); have n3_ := aM (below_step aG hb); clear BK315; clear BK321; clear BK327; clear HB; have BK315 := n0_; have BK321 := n1_; have BK327 := n2_; have HB := n3_; clear n0_ n1_ n2_ n3_; (try clear hb); (try clear hb2); (try clear hk); (try clear hi)) | ((with_reducible refine gate_dst (N := 9) rfl ?_); refine box_event ?hg (N := 9) ?hd (cs := #[.string (⟨#[]⟩ : ByteArray), .int .i64 0, .int .i64 0]) (t := 28) ?hr ?_; (case hd => rfl); (case hg => rfl); (case hr => first | (go_simp; done) | (go_simp; rfl)); intro gb332 hg w27 hbox hb; have n0_ := aM (blk_below (g := gb315) (o := .cells #[.string t312, .int .i64 t313, .int .i64 t314] 28 (0, 0)) aK hb); have n1_ := aM (blk_below (g := gb321) (o := .cells #[.string t317, .int .i64 t318, .int .i64 t319] 28 (0, 0)) aK hb); have n2_ := aM (blk_below (g := gb327) (o := .cells #[.string t323, .int .i64 t324, .int .i64 t325] 28 (0, 0)) aK hb); have n3_ := aM (below_step aG hb); have n4_ := aM (hbox); have n5_ := aM ((by rw [hg]; exact (below_size aG) : w.heap.size ≤ gb332)); have n6_ := aM ((by rw [hg]; exact (below_size aG) : w.heap.size ≤ gb332)); have n7_ := aM ((by rw [hg]; exact Nat.ne_of_lt (blk_lt (g := gb315) (o := .cells #[.string t312, .int .i64 t313, .int .i64 t314] 28 (0, 0)) aK) : gb315 ≠ gb332)); have n8_ := aM ((by rw [hg]; exact Nat.ne_of_gt (blk_lt (g := gb315) (o := .cells #[.string t312, .int .i64 t313, .int .i64 t314] 28 (0, 0)) aK) : gb332 ≠ gb315)); have n9_ := aM ((by rw [hg]; exact Nat.ne_of_lt (blk_lt (g := gb321) (o := .cells #[.string t317, .int .i64 t318, .int .i64 t319] 28 (0, 0)) aK) : gb321 ≠ gb332)); have n10_ := aM ((by rw [hg]; exact Nat.ne_of_gt (blk_lt (g := gb321) (o := .cells #[.string t317, .int .i64 t318, .int .i64 t319] 28 (0, 0)) aK) : gb332 ≠ gb321)); have n11_ := aM ((by rw [hg]; exact Nat.ne_of_lt (blk_lt (g := gb327) (o := .cells #[.string t323, .int .i64 t324, .int .i64 t325] 28 (0, 0)) aK) : gb327 ≠ gb332)); have n12_ := aM ((by rw [hg]; exact Nat.ne_of_gt (blk_lt (g := gb327) (o := .cells #[.string t323, .int .i64 t324, .int .i64 t325] 28 (0, 0)) aK) : gb332 ≠ gb327)); clear BK315; clear BK321; clear BK327; clear HB; have BK315 := n0_; have BK321 := n1_; have BK327 := n2_; have HB := n3_; have BK332 := n4_; have GW332 := n5_; have GE332 := n6_; have NB315_332 := n7_; have NB332_315 := n8_; have NB321_332 := n9_; have NB332_321 := n10_; have NB327_332 := n11_; have NB332_327 := n12_; clear n0_ n1_ n2_ n3_ n4_ n5_ n6_ n7_ n8_ n9_ n10_ n11_ n12_; clear hb hbox hg; have hnb28 := NB332_315.out; have hnc28 := NB315_332.out; have hnb29 := NB332_321.out; have hnc29 := NB321_332.out; have hnb30 := NB332_327.out; have hnc30 := NB327_332.out; have hcz31_0 : w27.cell? ⟨gb332, 0, none⟩ = some (.string (⟨#[]⟩ : ByteArray)) := (blk_cell BK332.out 0).trans rfl; have hcz31_1 : w27.cell? ⟨gb332, 1, none⟩ = some (.int .i64 0) := (blk_cell BK332.out 1).trans rfl; have hcz31_2 : w27.cell? ⟨gb332, 2, none⟩ = some (.int .i64 0) := (blk_cell BK332.out 2).trans rfl; have hfz31_0 := blk_frozen BK332.out 0; have hfz31_1 := blk_frozen BK332.out 1; have hfz31_2 := blk_frozen BK332.out 2) | ((with_reducible refine gate_callee (f := 23) rfl ?_); refine goesL_ (some 36) rfl rfl Tryd.func23 (by kernel_rfl) rfl #[.slice A0 l0.length c0] rfl (by (try simp only [List.map_toArray, List.map_cons, List.map_nil]); first | done | rfl | (simp only [List.length_drop, List.length_take]; rfl)) ?_; (with_reducible refine (spec_DrawAreValidRelations.calls k _ _ l0 t333 _ ?side1 ?side2 A10.out).mono ?_); (case side1 => exact Kd.C_below HR0.out aG); (case side2 => exact HC0.out); rintro e w32 ⟨v334, rfl, ho0, hb⟩; refine ⟨_, rfl, ?_⟩; have n0_ := aM (Kd.Q_lower (Kd.Q_newB (Kd.Q_newB (Kd.Q_newB (Kd.Q_newB ho0 (g := gb315) (o := .cells #[.string t312, .int .i64 t313, .int .i64 t314] 28 (0, 0)) (by (with_reducible repeat (first | refine blk_drewN ?_ _ | refine blk_drew ?_ | refine blk_alloc ?_ _)); refine blk_far ?_ NB315_332.out _; (with_reducible repeat (first | refine blk_drewN ?_ _ | refine blk_drew ?_ | refine blk_alloc ?_ _)); refine blk_far ?_ NB315_332.out _; (with_reducible repeat (first | refine blk_drewN ?_ _ | refine blk_drew ?_ | refine blk_alloc ?_ _)); refine blk_far ?_ NB315_332.out _; (with_reducible repeat (first | refine blk_drewN ?_ _ | refine blk_drew ?_ | refine blk_alloc ?_ _)); exact BK315.out)) (g := gb321) (o := .cells #[.string t317, .int .i64 t318, .int .i64 t319] 28 (0, 0)) (by (with_reducible repeat (first | refine blk_drewN ?_ _ | refine blk_drew ?_ | refine blk_alloc ?_ _)); refine blk_far ?_ NB321_332.out _; (with_reducible repeat (first | refine blk_drewN ?_ _ | refine blk_drew ?_ | refine blk_alloc ?_ _)); refine blk_far ?_ NB321_332.out _; (with_reducible repeat (first | refine blk_drewN ?_ _ | refine blk_drew ?_ | refine blk_alloc ?_ _)); refine blk_far ?_ NB321_332.out _; (with_reducible repeat (first | refine blk_drewN ?_ _ | refine blk_drew ?_ | refine blk_alloc ?_ _)); exact BK321.out)) (g := gb327) (o := .cells #[.string t323, .int .i64 t324, .int .i64 t325] 28 (0, 0)) (by (with_reducible repeat (first | refine blk_drewN ?_ _ | refine blk_drew ?_ | refine blk_alloc ?_ _)); refine blk_far ?_ NB327_332.out _; (with_reducible repeat (first | refine blk_drewN ?_ _ | refine blk_drew ?_ | refine blk_alloc ?_ _)); refine blk_far ?_ NB327_332.out _; (with_reducible repeat (first | refine blk_drewN ?_ _ | refine blk_drew ?_ | refine blk_alloc ?_ _)); refine blk_far ?_ NB327_332.out _; (with_reducible repeat (first | refine blk_drewN ?_ _ | refine blk_drew ?_ | refine blk_alloc ?_ _)); exact BK327.out)) (g := gb332) (o := .cells #[.string t328, .int .i64 t329, .int .i64 t330] 28 (0, 0)) (by (with_reducible repeat (first | refine blk_drewN ?_ _ | refine blk_drew ?_ | refine blk_alloc ?_ _)); refine blk_put (cs := #[.string t328, .int .i64 t329, .int .i64 0]) ?_ 2 _ rfl; (with_reducible repeat (first | refine blk_drewN ?_ _ | refine blk_drew ?_ | refine blk_alloc ?_ _)); refine blk_put (cs := #[.string t328, .int .i64 0, .int .i64 0]) ?_ 1 _ rfl; (with_reducible repeat (first | refine blk_drewN ?_ _ | refine blk_drew ?_ | refine blk_alloc ?_ _)); refine blk_put (cs := #[.string (⟨#[]⟩ : ByteArray), .int .i64 0, .int .i64 0]) ?_ 0 _ rfl; (with_reducible repeat (first | refine blk_drewN ?_ _ | refine blk_drew ?_ | refine blk_alloc ?_ _)); exact BK332.out)) (below_size aG)); have n1_ := aM (blk_below (g := gb315) (o := .cells #[.string t312, .int .i64 t313, .int .i64 t314] 28 (0, 0)) (by (with_reducible repeat (first | refine blk_drewN ?_ _ | refine blk_drew ?_ | refine blk_alloc ?_ _)); refine blk_far ?_ NB315_332.out _; (with_reducible repeat (first | refine blk_drewN ?_ _ | refine blk_drew ?_ | refine blk_alloc ?_ _)); refine blk_far ?_ NB315_332.out _; (with_reducible repeat (first | refine blk_drewN ?_ _ | refine blk_drew ?_ | refine blk_alloc ?_ _)); refine blk_far ?_ NB315_332.out _; (with_reducible repeat (first | refine blk_drewN ?_ _ | refine blk_drew ?_ | refine blk_alloc ?_ _)); exact BK315.out) hb); have n2_ := aM (blk_below (g := gb321) (o := .cells #[.string t317, .int .i64 t318, .int .i64 t319] 28 (0, 0)) (by (with_reducible repeat (first | refine blk_drewN ?_ _ | refine blk_drew ?_ | refine blk_alloc ?_ _)); refine blk_far ?_ NB321_332.out _; (with_reducible repeat (first | refine blk_drewN ?_ _ | refine blk_drew ?_ | refine blk_alloc ?_ _)); refine blk_far ?_ NB321_332.out _; (with_reducible repeat (first | refine blk_drewN ?_ _ | refine blk_drew ?_ | refine blk_alloc ?_ _)); refine blk_far ?_ NB321_332.out _; (with_reducible repeat (first | refine blk_drewN ?_ _ | refine blk_drew ?_ | refine blk_alloc ?_ _)); exact BK321.out) hb); have n3_ := aM (blk_below (g := gb327) (o := .cells #[.string t323, .int .i64 t324, .int .i64 t325] 28 (0, 0)) (by (with_reducible repeat (first | refine blk_drewN ?_ _ | refine blk_drew ?_ | refine blk_alloc ?_ _)); refine blk_far ?_ NB327_332.out _; (with_reducible repeat (first | refine blk_drewN ?_ _ | refine blk_drew ?_ | refine blk_alloc ?_ _)); refine blk_far ?_ NB327_332.out _; (with_reducible repeat (first | refine blk_drewN ?_ _ | refine blk_drew ?_ | refine blk_alloc ?_ _)); refine blk_far ?_ NB327_332.out _; (with_reducible repeat (first | refine blk_drewN ?_ _ | refine blk_drew ?_ | refine blk_alloc ?_ _)); exact BK327.out) hb); have n4_ := aM (blk_below (g := gb332) (o := .cells #[.string t328, .int .i64 t329, .int .i64 t330] 28 (0, 0)) (by (with_reducible repeat (first | refine blk_drewN ?_ _ | refine blk_drew ?_ | refine blk_alloc ?_ _)); refine blk_put (cs := #[.string t328, .int .i64 t329, .int .i64 0]) ?_ 2 _ rfl; (with_reducible repeat (first | refine blk_drewN ?_ _ | refine blk_drew ?_ | refine blk_alloc ?_ _)); refine blk_put (cs := #[.string t328, .int .i64 0, .int .i64 0]) ?_ 1 _ rfl; (with_reducible repeat (first | refine blk_drewN ?_ _ | refine blk_drew ?_ | refine blk_alloc ?_ _)); refine blk_put (cs := #[.string (⟨#[]⟩ : ByteArray), .int .i64 0, .int .i64 0]) ?_ 0 _ rfl; (with_reducible repeat (first | refine blk_drewN ?_ _ | refine blk_drew ?_ | refine blk_alloc ?_ _)); exact BK332.out) hb); have n5_ := aM (below_step aG hb); clear BK315; clear BK321; clear BK327; clear BK332; clear HB; have HO335 := n0_; have BK315 := n1_; have BK321 := n2_; have BK327 := n3_; have BK332 := n4_; have HB := n5_; clear n0_ n1_ n2_ n3_ n4_ n5_; (try clear hb); (try clear hb2); (try clear hk); (try clear hi); (try clear ho0)))
  (try simp only [Act.put, List.setIfInBounds_toArray, List.set_cons_zero, List.set_cons_succ])
  go_cut [69] (fun v69 wc => ∃ (kq : Nat) (x69_10 : Bool), v69 = .bool x69_10 ∧ Aside0 (laws_FnRelationFormat.j0 kq t333 x69_10 = some r) ∧ Aside0 (kq ≤ k) ∧ Aside0 (Kd.Q k28 28 wc w.heap.size (fun k_ => k_ ≠ gb315 ∧ k_ ≠ gb321 ∧ k_ ≠ gb327 ∧ k_ ≠ gb332) v334 t333) ∧ Aside0 (wc.heap[gb315]? = some (.cells #[.string t312, .int .i64 t313, .int .i64 t314] 28 (0, 0))) ∧ Aside0 (wc.heap[gb321]? = some (.cells #[.string t317, .int .i64 t318, .int .i64 t319] 28 (0, 0))) ∧ Aside0 (wc.heap[gb327]? = some (.cells #[.string t323, .int .i64 t324, .int .i64 t325] 28 (0, 0))) ∧ Aside0 (wc.heap[gb332]? = some (.cells #[.string t328, .int .i64 t329, .int .i64 t330] 28 (0, 0))) ∧ Aside0 (Below w.heap.size w wc))
  case first =>
   have H := HC11.out
   clear HC11
   replace H := Option.bind_eq_some_iff.mp H
   obtain ⟨t336, A330, H⟩ := H
   replace H : (if (t320 != t336) = true then (laws_FnRelationFormat.j0 k t333 true) else (if t320 = true then (if (!(t317.toList == t312.toList) || (!(t318 == t313) || (!(t319 == t314)))) = true then (laws_FnRelationFormat.j0 k t333 true) else (if (t326 != t331) = true then (laws_FnRelationFormat.j0 k t333 true) else (if t326 = true then ((impl_FormatRelation.f t323 t324 t325).bind fun t337 => (if t337.toList = t322.toList then ((impl_AreValidRelations.f t333).bind fun t338 => ((spec_AreValidRelations.f t333).bind fun t339 => (laws_FnRelationFormat.j0 k t333 (t338 != t339)))) else (laws_FnRelationFormat.j0 k t333 true))) else ((impl_AreValidRelations.f t333).bind fun t340 => ((spec_AreValidRelations.f t333).bind fun t341 => (laws_FnRelationFormat.j0 k t333 (t340 != t341))))))) else (if (t326 != t331) = true then (laws_FnRelationFormat.j0 k t333 true) else (if t326 = true then ((impl_FormatRelation.f t323 t324 t325).bind fun t342 => (if t342.toList = t322.toList then ((impl_AreValidRelations.f t333).bind fun t343 => ((spec_AreValidRelations.f t333).bind fun t344 => (laws_FnRelationFormat.j0 k t333 (t343 != t344)))) else (laws_FnRelationFormat.j0 k t333 true))) else ((impl_AreValidRelations.f t333).bind fun t345 => ((spec_AreValidRelations.f t333).bind fun t346 => (laws_FnRelationFormat.j0 k t333 (t345 != t346)))))))) = some r := H
   have A33 := aM A330
   clear A330
   by_cases c34 : (t320 != t336) = true
   ·rw [if_pos c34] at H
    have c34b0 : (t320 != t336) = true := c34
    (try (have c34b1 : decide (t320 = t336) = false := by simpa using c34))
    (try (have c34b2 : (t320 == t336) = false := by simpa using c34))
    (try (have c34b3 : ¬ (t320 = t336) := by simpa using c34))
    clear c34
    (first | rw [c34b0] | (simp only [i64_w, i32_w]; rw [c34b0]) | skip)
    have H' := aM H
    clear H
    have hnb35 := NB315_321.out
    have hnc35 := NB321_315.out
    have hnb36 := NB315_327.out
    have hnc36 := NB327_315.out
    have hnb37 := NB315_332.out
    have hnc37 := NB332_315.out
    have hcz38_0 : w32.cell? ⟨gb315, 0, none⟩ = some (.string t312) := (blk_cell BK315.out 0).trans rfl
    have hcz38_1 : w32.cell? ⟨gb315, 1, none⟩ = some (.int .i64 t313) := (blk_cell BK315.out 1).trans rfl
    have hcz38_2 : w32.cell? ⟨gb315, 2, none⟩ = some (.int .i64 t314) := (blk_cell BK315.out 2).trans rfl
    have hfz38_0 := blk_frozen BK315.out 0
    have hfz38_1 := blk_frozen BK315.out 1
    have hfz38_2 := blk_frozen BK315.out 2
    go_wp2_with (first | ((with_reducible refine gate_callee (f := 24) rfl ?_); refine goesL_ (some 39) rfl rfl Tryd.func24 (by kernel_rfl) rfl #[.agg #[.string t312, .int .i64 t313, .int .i64 t314]] rfl (by (try simp only [List.map_toArray, List.map_cons, List.map_nil]); first | done | rfl | (simp only [List.length_drop, List.length_take]; rfl)) ?_; (with_reducible refine (spec_IsValidRelation.calls t312 t313 t314 t336 _ A33.out).mono ?_); rintro e w39 ⟨rfl, hb⟩; refine ⟨_, rfl, ?_⟩; have n0_ := aM (Kd.Q_below (by (with_reducible repeat (first | apply Kd.Q_alloc | apply Kd.Q_drewN | apply Kd.Q_drew)); exact HO335.out) hb); have n1_ := aM (blk_below (g := gb315) (o := .cells #[.string t312, .int .i64 t313, .int .i64 t314] 28 (0, 0)) aK hb); have n2_ := aM (blk_below (g := gb321) (o := .cells #[.string t317, .int .i64 t318, .int .i64 t319] 28 (0, 0)) aK hb); have n3_ := aM (blk_below (g := gb327) (o := .cells #[.string t323, .int .i64 t324, .int .i64 t325] 28 (0, 0)) aK hb); have n4_ := aM (blk_below (g := gb332) (o := .cells #[.string t328, .int .i64 t329, .int .i64 t330] 28 (0, 0)) aK hb); have n5_ := aM (below_step aG hb); clear HO335; clear BK315; clear BK321; clear BK327; clear BK332; clear HB; have HO335 := n0_; have BK315 := n1_; have BK321 := n2_; have BK327 := n3_; have BK332 := n4_; have HB := n5_; clear n0_ n1_ n2_ n3_ n4_ n5_; (try clear hb); (try clear hb2); (try clear hk); (try clear hi)))
    go_meet
    case rel => exact ⟨_, (true), (by first | rfl | (simp; done) | (simp [*]; done)), H', ⟨by first | omega | exact Nat.le_refl _⟩, ⟨by (with_reducible repeat (first | apply Kd.Q_alloc | apply Kd.Q_drewN | apply Kd.Q_drew)); exact Kd.Q_mono HO335.out (fun _ hk => ⟨hk.1.1.1.2, ⟨hk.1.1.2, ⟨hk.1.2, hk.2⟩⟩⟩)⟩, ⟨by (with_reducible repeat (first | refine blk_drewN ?_ _ | refine blk_drew ?_ | refine blk_alloc ?_ _)); exact BK315.out⟩, ⟨by (with_reducible repeat (first | refine blk_drewN ?_ _ | refine blk_drew ?_ | refine blk_alloc ?_ _)); exact BK321.out⟩, ⟨by (with_reducible repeat (first | refine blk_drewN ?_ _ | refine blk_drew ?_ | refine blk_alloc ?_ _)); exact BK327.out⟩, ⟨by (with_reducible repeat (first | refine blk_drewN ?_ _ | refine blk_drew ?_ | refine blk_alloc ?_ _)); exact BK332.out⟩, ⟨by repeat (first | (with_reducible first | exact HB.out | apply below_alloc | apply pw_below_drewN | apply below_drew1 | refine below_set ?_ GE315.out | refine below_set ?_ GE321.out | refine below_set ?_ GE327.out | refine below_set ?_ GE332.out) | exact HB.out)⟩⟩
   ·rw [if_neg c34] at H
    have c34b0 : (t320 != t336) = false := by simpa using c34
    (try (have c34b1 : decide (t320 = t336) = true := by simpa using c34))
    (try (have c34b2 : (t320 == t336) = true := by simpa using c34))
    clear c34
    (first | rw [c34b0] | (simp only [i64_w, i32_w]; rw [c34b0]) | skip)
    by_cases c40 : t320 = true
    ·subst c40
     have H1 : (if (!(t317.toList == t312.toList) || (!(t318 == t313) || (!(t319 == t314)))) = true then (laws_FnRelationFormat.j0 k t333 true) else (if (t326 != t331) = true then (laws_FnRelationFormat.j0 k t333 true) else (if t326 = true then ((impl_FormatRelation.f t323 t324 t325).bind fun t337 => (if t337.toList = t322.toList then ((impl_AreValidRelations.f t333).bind fun t338 => ((spec_AreValidRelations.f t333).bind fun t339 => (laws_FnRelationFormat.j0 k t333 (t338 != t339)))) else (laws_FnRelationFormat.j0 k t333 true))) else ((impl_AreValidRelations.f t333).bind fun t340 => ((spec_AreValidRelations.f t333).bind fun t341 => (laws_FnRelationFormat.j0 k t333 (t340 != t341))))))) = some r := by rw [if_pos rfl] at H; exact H
     clear H
     have H := H1
     clear H1
     by_cases c41 : (!(t317.toList == t312.toList) || (!(t318 == t313) || (!(t319 == t314)))) = true
     ·rw [if_pos c41] at H
      have c41b0 : (!(t317.toList == t312.toList) || (!(t318 == t313) || (!(t319 == t314)))) = true := c41
      clear c41
      have H' := aM H
      clear H
      have hnb42 := NB315_321.out
      have hnc42 := NB321_315.out
      have hnb43 := NB315_327.out
      have hnc43 := NB327_315.out
      have hnb44 := NB315_332.out
      have hnc44 := NB332_315.out
      have hcz45_0 : w32.cell? ⟨gb315, 0, none⟩ = some (.string t312) := (blk_cell BK315.out 0).trans rfl
      have hcz45_1 : w32.cell? ⟨gb315, 1, none⟩ = some (.int .i64 t313) := (blk_cell BK315.out 1).trans rfl
      have hcz45_2 : w32.cell? ⟨gb315, 2, none⟩ = some (.int .i64 t314) := (blk_cell BK315.out 2).trans rfl
      have hfz45_0 := blk_frozen BK315.out 0
      have hfz45_1 := blk_frozen BK315.out 1
      have hfz45_2 := blk_frozen BK315.out 2
      go_wp2_with (first | ((with_reducible refine gate_callee (f := 24) rfl ?_); refine goesL_ (some 39) rfl rfl Tryd.func24 (by kernel_rfl) rfl #[.agg #[.string t312, .int .i64 t313, .int .i64 t314]] rfl (by (try simp only [List.map_toArray, List.map_cons, List.map_nil]); first | done | rfl | (simp only [List.length_drop, List.length_take]; rfl)) ?_; (with_reducible refine (spec_IsValidRelation.calls t312 t313 t314 t336 _ A33.out).mono ?_); rintro e w46 ⟨rfl, hb⟩; refine ⟨_, rfl, ?_⟩; have n0_ := aM (Kd.Q_below (by (with_reducible repeat (first | apply Kd.Q_alloc | apply Kd.Q_drewN | apply Kd.Q_drew)); exact HO335.out) hb); have n1_ := aM (blk_below (g := gb315) (o := .cells #[.string t312, .int .i64 t313, .int .i64 t314] 28 (0, 0)) aK hb); have n2_ := aM (blk_below (g := gb321) (o := .cells #[.string t317, .int .i64 t318, .int .i64 t319] 28 (0, 0)) aK hb); have n3_ := aM (blk_below (g := gb327) (o := .cells #[.string t323, .int .i64 t324, .int .i64 t325] 28 (0, 0)) aK hb); have n4_ := aM (blk_below (g := gb332) (o := .cells #[.string t328, .int .i64 t329, .int .i64 t330] 28 (0, 0)) aK hb); have n5_ := aM (below_step aG hb); clear HO335; clear BK315; clear BK321; clear BK327; clear BK332; clear HB; have HO335 := n0_; have BK315 := n1_; have BK321 := n2_; have BK327 := n3_; have BK332 := n4_; have HB := n5_; clear n0_ n1_ n2_ n3_ n4_ n5_; (try clear hb); (try clear hb2); (try clear hk); (try clear hi); have hnb47 := NB321_327.out; have hnc47 := NB327_321.out; have hnb48 := NB321_332.out; have hnc48 := NB332_321.out; have hcz49_0 : w46.cell? ⟨gb321, 0, none⟩ = some (.string t317) := (blk_cell BK321.out 0).trans rfl; have hcz49_1 : w46.cell? ⟨gb321, 1, none⟩ = some (.int .i64 t318) := (blk_cell BK321.out 1).trans rfl; have hcz49_2 : w46.cell? ⟨gb321, 2, none⟩ = some (.int .i64 t319) := (blk_cell BK321.out 2).trans rfl; have hfz49_0 := blk_frozen BK321.out 0; have hfz49_1 := blk_frozen BK321.out 1; have hfz49_2 := blk_frozen BK321.out 2; have hcz50_0 : w46.cell? ⟨gb315, 0, none⟩ = some (.string t312) := (blk_cell BK315.out 0).trans rfl; have hcz50_1 : w46.cell? ⟨gb315, 1, none⟩ = some (.int .i64 t313) := (blk_cell BK315.out 1).trans rfl; have hcz50_2 : w46.cell? ⟨gb315, 2, none⟩ = some (.int .i64 t314) := (blk_cell BK315.out 2).trans rfl; have hfz50_0 := blk_frozen BK315.out 0; have hfz50_1 := blk_frozen BK315.out 1; have hfz50_2 := blk_frozen BK315.out 2))
      go_meet
      case rel => exact ⟨_, (true), (by first | rfl | (simp; done) | (simp [*]; done)), H', ⟨by first | omega | exact Nat.le_refl _⟩, ⟨by (with_reducible repeat (first | apply Kd.Q_alloc | apply Kd.Q_drewN | apply Kd.Q_drew)); exact Kd.Q_mono HO335.out (fun _ hk => ⟨hk.1.1.1.2, ⟨hk.1.1.2, ⟨hk.1.2, hk.2⟩⟩⟩)⟩, ⟨by (with_reducible repeat (first | refine blk_drewN ?_ _ | refine blk_drew ?_ | refine blk_alloc ?_ _)); exact BK315.out⟩, ⟨by (with_reducible repeat (first | refine blk_drewN ?_ _ | refine blk_drew ?_ | refine blk_alloc ?_ _)); exact BK321.out⟩, ⟨by (with_reducible repeat (first | refine blk_drewN ?_ _ | refine blk_drew ?_ | refine blk_alloc ?_ _)); exact BK327.out⟩, ⟨by (with_reducible repeat (first | refine blk_drewN ?_ _ | refine blk_drew ?_ | refine blk_alloc ?_ _)); exact BK332.out⟩, ⟨by repeat (first | (with_reducible first | exact HB.out | apply below_alloc | apply pw_below_drewN | apply below_drew1 | refine below_set ?_ GE315.out | refine below_set ?_ GE321.out | refine below_set ?_ GE327.out | refine below_set ?_ GE332.out) | exact HB.out)⟩⟩
     ·rw [if_neg c41] at H
      have c41b0 : (!(t317.toList == t312.toList) || (!(t318 == t313) || (!(t319 == t314)))) = false := by simpa using c41
      clear c41
      by_cases c51 : (t326 != t331) = true
      ·rw [if_pos c51] at H
       have c51b0 : (t326 != t331) = true := c51
       (try (have c51b1 : decide (t326 = t331) = false := by simpa using c51))
       (try (have c51b2 : (t326 == t331) = false := by simpa using c51))
       (try (have c51b3 : ¬ (t326 = t331) := by simpa using c51))
       clear c51
       have H' := aM H
       clear H
       have hnb52 := NB315_321.out
       have hnc52 := NB321_315.out
       have hnb53 := NB315_327.out
       have hnc53 := NB327_315.out
       have hnb54 := NB315_332.out
       have hnc54 := NB332_315.out
       have hcz55_0 : w32.cell? ⟨gb315, 0, none⟩ = some (.string t312) := (blk_cell BK315.out 0).trans rfl
       have hcz55_1 : w32.cell? ⟨gb315, 1, none⟩ = some (.int .i64 t313) := (blk_cell BK315.out 1).trans rfl
       have hcz55_2 : w32.cell? ⟨gb315, 2, none⟩ = some (.int .i64 t314) := (blk_cell BK315.out 2).trans rfl
       have hfz55_0 := blk_frozen BK315.out 0
       have hfz55_1 := blk_frozen BK315.out 1
       have hfz55_2 := blk_frozen BK315.out 2
       go_wp2_with (first | ((with_reducible refine gate_callee (f := 24) rfl ?_); refine goesL_ (some 39) rfl rfl Tryd.func24 (by kernel_rfl) rfl #[.agg #[.string t312, .int .i64 t313, .int .i64 t314]] rfl (by (try simp only [List.map_toArray, List.map_cons, List.map_nil]); first | done | rfl | (simp only [List.length_drop, List.length_take]; rfl)) ?_; (with_reducible refine (spec_IsValidRelation.calls t312 t313 t314 t336 _ A33.out).mono ?_); rintro e w56 ⟨rfl, hb⟩; refine ⟨_, rfl, ?_⟩; have n0_ := aM (Kd.Q_below (by (with_reducible repeat (first | apply Kd.Q_alloc | apply Kd.Q_drewN | apply Kd.Q_drew)); exact HO335.out) hb); have n1_ := aM (blk_below (g := gb315) (o := .cells #[.string t312, .int .i64 t313, .int .i64 t314] 28 (0, 0)) aK hb); have n2_ := aM (blk_below (g := gb321) (o := .cells #[.string t317, .int .i64 t318, .int .i64 t319] 28 (0, 0)) aK hb); have n3_ := aM (blk_below (g := gb327) (o := .cells #[.string t323, .int .i64 t324, .int .i64 t325] 28 (0, 0)) aK hb); have n4_ := aM (blk_below (g := gb332) (o := .cells #[.string t328, .int .i64 t329, .int .i64 t330] 28 (0, 0)) aK hb); have n5_ := aM (below_step aG hb); clear HO335; clear BK315; clear BK321; clear BK327; clear BK332; clear HB; have HO335 := n0_; have BK315 := n1_; have BK321 := n2_; have BK327 := n3_; have BK332 := n4_; have HB := n5_; clear n0_ n1_ n2_ n3_ n4_ n5_; (try clear hb); (try clear hb2); (try clear hk); (try clear hi); have hnb57 := NB321_327.out; have hnc57 := NB327_321.out; have hnb58 := NB321_332.out; have hnc58 := NB332_321.out; have hcz59_0 : w56.cell? ⟨gb321, 0, none⟩ = some (.string t317) := (blk_cell BK321.out 0).trans rfl; have hcz59_1 : w56.cell? ⟨gb321, 1, none⟩ = some (.int .i64 t318) := (blk_cell BK321.out 1).trans rfl; have hcz59_2 : w56.cell? ⟨gb321, 2, none⟩ = some (.int .i64 t319) := (blk_cell BK321.out 2).trans rfl; have hfz59_0 := blk_frozen BK321.out 0; have hfz59_1 := blk_frozen BK321.out 1; have hfz59_2 := blk_frozen BK321.out 2; have hcz60_0 : w56.cell? ⟨gb315, 0, none⟩ = some (.string t312) := (blk_cell BK315.out 0).trans rfl; have hcz60_1 : w56.cell? ⟨gb315, 1, none⟩ = some (.int .i64 t313) := (blk_cell BK315.out 1).trans rfl; have hcz60_2 : w56.cell? ⟨gb315, 2, none⟩ = some (.int .i64 t314) := (blk_cell BK315.out 2).trans rfl; have hfz60_0 := blk_frozen BK315.out 0; have hfz60_1 := blk_frozen BK315.out 1; have hfz60_2 := blk_frozen BK315.out 2))
       go_meet
       case rel => exact ⟨_, (true), (by first | rfl | (simp; done) | (simp [*]; done)), H', ⟨by first | omega | exact Nat.le_refl _⟩, ⟨by (with_reducible repeat (first | apply Kd.Q_alloc | apply Kd.Q_drewN | apply Kd.Q_drew)); exact Kd.Q_mono HO335.out (fun _ hk => ⟨hk.1.1.1.2, ⟨hk.1.1.2, ⟨hk.1.2, hk.2⟩⟩⟩)⟩, ⟨by (with_reducible repeat (first | refine blk_drewN ?_ _ | refine blk_drew ?_ | refine blk_alloc ?_ _)); exact BK315.out⟩, ⟨by (with_reducible repeat (first | refine blk_drewN ?_ _ | refine blk_drew ?_ | refine blk_alloc ?_ _)); exact BK321.out⟩, ⟨by (with_reducible repeat (first | refine blk_drewN ?_ _ | refine blk_drew ?_ | refine blk_alloc ?_ _)); exact BK327.out⟩, ⟨by (with_reducible repeat (first | refine blk_drewN ?_ _ | refine blk_drew ?_ | refine blk_alloc ?_ _)); exact BK332.out⟩, ⟨by repeat (first | (with_reducible first | exact HB.out | apply below_alloc | apply pw_below_drewN | apply below_drew1 | refine below_set ?_ GE315.out | refine below_set ?_ GE321.out | refine below_set ?_ GE327.out | refine below_set ?_ GE332.out) | exact HB.out)⟩⟩
      ·rw [if_neg c51] at H
       have c51b0 : (t326 != t331) = false := by simpa using c51
       (try (have c51b1 : decide (t326 = t331) = true := by simpa using c51))
       (try (have c51b2 : (t326 == t331) = true := by simpa using c51))
       clear c51
       by_cases c61 : t326 = true
       ·subst c61
        have H1 : ((impl_FormatRelation.f t323 t324 t325).bind fun t337 => (if t337.toList = t322.toList then ((impl_AreValidRelations.f t333).bind fun t338 => ((spec_AreValidRelations.f t333).bind fun t339 => (laws_FnRelationFormat.j0 k t333 (t338 != t339)))) else (laws_FnRelationFormat.j0 k t333 true))) = some r := by rw [if_pos rfl] at H; exact H
        clear H
        have H := H1
        clear H1
        replace H := Option.bind_eq_some_iff.mp H
        obtain ⟨t337, A620, H⟩ := H
        replace H : (if t337.toList = t322.toList then ((impl_AreValidRelations.f t333).bind fun t338 => ((spec_AreValidRelations.f t333).bind fun t339 => (laws_FnRelationFormat.j0 k t333 (t338 != t339)))) else (laws_FnRelationFormat.j0 k t333 true)) = some r := H
        have A62 := aM A620
        clear A620
        by_cases c63 : t337.toList = t322.toList
        ·rw [if_pos c63] at H
         have c63b0 : (t337.toList == t322.toList) = true := beq_iff_eq.mpr c63
         have c63b1 : (t337.toList != t322.toList) = false := bne_eq_false_iff_eq.mpr c63
         clear c63
         replace H := Option.bind_eq_some_iff.mp H
         obtain ⟨t338, A640, H⟩ := H
         replace H : ((spec_AreValidRelations.f t333).bind fun t339 => (laws_FnRelationFormat.j0 k t333 (t338 != t339))) = some r := H
         have A64 := aM A640
         clear A640
         replace H := Option.bind_eq_some_iff.mp H
         obtain ⟨t339, A650, H⟩ := H
         replace H : (laws_FnRelationFormat.j0 k t333 (t338 != t339)) = some r := H
         have A65 := aM A650
         clear A650
         have H' := aM H
         clear H
         have hnb66 := NB315_321.out
         have hnc66 := NB321_315.out
         have hnb67 := NB315_327.out
         have hnc67 := NB327_315.out
         have hnb68 := NB315_332.out
         have hnc68 := NB332_315.out
         have hcz69_0 : w32.cell? ⟨gb315, 0, none⟩ = some (.string t312) := (blk_cell BK315.out 0).trans rfl
         have hcz69_1 : w32.cell? ⟨gb315, 1, none⟩ = some (.int .i64 t313) := (blk_cell BK315.out 1).trans rfl
         have hcz69_2 : w32.cell? ⟨gb315, 2, none⟩ = some (.int .i64 t314) := (blk_cell BK315.out 2).trans rfl
         have hfz69_0 := blk_frozen BK315.out 0
         have hfz69_1 := blk_frozen BK315.out 1
         have hfz69_2 := blk_frozen BK315.out 2
         go_wp2_with (first | ((with_reducible refine gate_callee (f := 24) rfl ?_); refine goesL_ (some 39) rfl rfl Tryd.func24 (by kernel_rfl) rfl #[.agg #[.string t312, .int .i64 t313, .int .i64 t314]] rfl (by (try simp only [List.map_toArray, List.map_cons, List.map_nil]); first | done | rfl | (simp only [List.length_drop, List.length_take]; rfl)) ?_; (with_reducible refine (spec_IsValidRelation.calls t312 t313 t314 t336 _ A33.out).mono ?_); rintro e w70 ⟨rfl, hb⟩; refine ⟨_, rfl, ?_⟩; have n0_ := aM (Kd.Q_below (by (with_reducible repeat (first | apply Kd.Q_alloc | apply Kd.Q_drewN | apply Kd.Q_drew)); exact HO335.out) hb); have n1_ := aM (blk_below (g := gb315) (o := .cells #[.string t312, .int .i64 t313, .int .i64 t314] 28 (0, 0)) aK hb); have n2_ := aM (blk_below (g := gb321) (o := .cells #[.string t317, .int .i64 t318, .int .i64 t319] 28 (0, 0)) aK hb); have n3_ := aM (blk_below (g := gb327) (o := .cells #[.string t323, .int .i64 t324, .int .i64 t325] 28 (0, 0)) aK hb); have n4_ := aM (blk_below (g := gb332) (o := .cells #[.string t328, .int .i64 t329, .int .i64 t330] 28 (0, 0)) aK hb); have n5_ := aM (below_step aG hb); clear HO335; clear BK315; clear BK321; clear BK327; clear BK332; clear HB; have HO335 := n0_; have BK315 := n1_; have BK321 := n2_; have BK327 := n3_; have BK332 := n4_; have HB := n5_; clear n0_ n1_ n2_ n3_ n4_ n5_; (try clear hb); (try clear hb2); (try clear hk); (try clear hi); have hnb71 := NB321_327.out; have hnc71 := NB327_321.out; have hnb72 := NB321_332.out; have hnc72 := NB332_321.out; have hcz73_0 : w70.cell? ⟨gb321, 0, none⟩ = some (.string t317) := (blk_cell BK321.out 0).trans rfl; have hcz73_1 : w70.cell? ⟨gb321, 1, none⟩ = some (.int .i64 t318) := (blk_cell BK321.out 1).trans rfl; have hcz73_2 : w70.cell? ⟨gb321, 2, none⟩ = some (.int .i64 t319) := (blk_cell BK321.out 2).trans rfl; have hfz73_0 := blk_frozen BK321.out 0; have hfz73_1 := blk_frozen BK321.out 1; have hfz73_2 := blk_frozen BK321.out 2; have hcz74_0 : w70.cell? ⟨gb315, 0, none⟩ = some (.string t312) := (blk_cell BK315.out 0).trans rfl; have hcz74_1 : w70.cell? ⟨gb315, 1, none⟩ = some (.int .i64 t313) := (blk_cell BK315.out 1).trans rfl; have hcz74_2 : w70.cell? ⟨gb315, 2, none⟩ = some (.int .i64 t314) := (blk_cell BK315.out 2).trans rfl; have hfz74_0 := blk_frozen BK315.out 0; have hfz74_1 := blk_frozen BK315.out 1; have hfz74_2 := blk_frozen BK315.out 2; have hnb75 := NB327_332.out; have hnc75 := NB332_327.out; have hcz76_0 : w70.cell? ⟨gb327, 0, none⟩ = some (.string t323) := (blk_cell BK327.out 0).trans rfl; have hcz76_1 : w70.cell? ⟨gb327, 1, none⟩ = some (.int .i64 t324) := (blk_cell BK327.out 1).trans rfl; have hcz76_2 : w70.cell? ⟨gb327, 2, none⟩ = some (.int .i64 t325) := (blk_cell BK327.out 2).trans rfl; have hfz76_0 := blk_frozen BK327.out 0; have hfz76_1 := blk_frozen BK327.out 1; have hfz76_2 := blk_frozen BK327.out 2) | (go_at_call 16; (with_reducible refine (impl_FormatRelation.calls t323 t324 t325 t337 _ A62.out (hp_.on (by repeat (first | (with_reducible first | exact HB.out | apply below_alloc | apply pw_below_drewN | apply below_drew1 | refine below_set ?_ GE315.out | refine below_set ?_ GE321.out | refine below_set ?_ GE327.out | refine below_set ?_ GE332.out) | exact HB.out)))).mono ?_); rintro e w77 ⟨rfl, hb⟩; have n0_ := aM (Kd.Q_below (by (with_reducible repeat (first | apply Kd.Q_alloc | apply Kd.Q_drewN | apply Kd.Q_drew)); exact HO335.out) hb); have n1_ := aM (blk_below (g := gb315) (o := .cells #[.string t312, .int .i64 t313, .int .i64 t314] 28 (0, 0)) aK hb); have n2_ := aM (blk_below (g := gb321) (o := .cells #[.string t317, .int .i64 t318, .int .i64 t319] 28 (0, 0)) aK hb); have n3_ := aM (blk_below (g := gb327) (o := .cells #[.string t323, .int .i64 t324, .int .i64 t325] 28 (0, 0)) aK hb); have n4_ := aM (blk_below (g := gb332) (o := .cells #[.string t328, .int .i64 t329, .int .i64 t330] 28 (0, 0)) aK hb); have n5_ := aM (below_step aG hb); clear HO335; clear BK315; clear BK321; clear BK327; clear BK332; clear HB; have HO335 := n0_; have BK315 := n1_; have BK321 := n2_; have BK327 := n3_; have BK332 := n4_; have HB := n5_; clear n0_ n1_ n2_ n3_ n4_ n5_; (try clear hb); (try clear hb2); (try clear hk); (try clear hi); obtain ⟨Ao78, co78, eo78, _⟩ := Kd.Q_slice HO335.out; subst eo78) | (go_at_call 25; (with_reducible refine (impl_AreValidRelations.calls _ _ t333 t338 _ ?side1 ?side2 A64.out).mono ?_); (case side1 => repeat (first | exact (Kd.Q_reads' HO335.out).2.2 | (with_reducible refine Kd.C_alloc ?_ _) | (with_reducible refine Kd.C_drewN ?_ _) | (with_reducible refine Kd.C_drew ?_))); (case side2 => exact (Kd.Q_reads' HO335.out).2.1); rintro e w79 ⟨rfl, hb⟩; have n0_ := aM (Kd.Q_below (by (with_reducible repeat (first | apply Kd.Q_alloc | apply Kd.Q_drewN | apply Kd.Q_drew)); exact HO335.out) hb); have n1_ := aM (blk_below (g := gb315) (o := .cells #[.string t312, .int .i64 t313, .int .i64 t314] 28 (0, 0)) aK hb); have n2_ := aM (blk_below (g := gb321) (o := .cells #[.string t317, .int .i64 t318, .int .i64 t319] 28 (0, 0)) aK hb); have n3_ := aM (blk_below (g := gb327) (o := .cells #[.string t323, .int .i64 t324, .int .i64 t325] 28 (0, 0)) aK hb); have n4_ := aM (blk_below (g := gb332) (o := .cells #[.string t328, .int .i64 t329, .int .i64 t330] 28 (0, 0)) aK hb); have n5_ := aM (below_step aG hb); clear HO335; clear BK315; clear BK321; clear BK327; clear BK332; clear HB; have HO335 := n0_; have BK315 := n1_; have BK321 := n2_; have BK327 := n3_; have BK332 := n4_; have HB := n5_; clear n0_ n1_ n2_ n3_ n4_ n5_; (try clear hb); (try clear hb2); (try clear hk); (try clear hi)) | (go_at_call 26; (with_reducible refine (spec_AreValidRelations.calls _ _ t333 t339 _ ?side1 ?side2 A65.out).mono ?_); (case side1 => repeat (first | exact (Kd.Q_reads' HO335.out).2.2 | (with_reducible refine Kd.C_alloc ?_ _) | (with_reducible refine Kd.C_drewN ?_ _) | (with_reducible refine Kd.C_drew ?_))); (case side2 => exact (Kd.Q_reads' HO335.out).2.1); rintro e w80 ⟨rfl, hb⟩; have n0_ := aM (Kd.Q_below (by (with_reducible repeat (first | apply Kd.Q_alloc | apply Kd.Q_drewN | apply Kd.Q_drew)); exact HO335.out) hb); have n1_ := aM (blk_below (g := gb315) (o := .cells #[.string t312, .int .i64 t313, .int .i64 t314] 28 (0, 0)) aK hb); have n2_ := aM (blk_below (g := gb321) (o := .cells #[.string t317, .int .i64 t318, .int .i64 t319] 28 (0, 0)) aK hb); have n3_ := aM (blk_below (g := gb327) (o := .cells #[.string t323, .int .i64 t324, .int .i64 t325] 28 (0, 0)) aK hb); have n4_ := aM (blk_below (g := gb332) (o := .cells #[.string t328, .int .i64 t329, .int .i64 t330] 28 (0, 0)) aK hb); have n5_ := aM (below_step aG hb); clear HO335; clear BK315; clear BK321; clear BK327; clear BK332; clear HB; have HO335 := n0_; have BK315 := n1_; have BK321 := n2_; have BK327 := n3_; have BK332 := n4_; have HB := n5_; clear n0_ n1_ n2_ n3_ n4_ n5_; (try clear hb); (try clear hb2); (try clear hk); (try clear hi)))
         go_meet
         case rel => exact ⟨_, ((t338 != t339)), (by first | rfl | (simp; done) | (simp [*]; done)), H', ⟨by first | omega | exact Nat.le_refl _⟩, ⟨by (with_reducible repeat (first | apply Kd.Q_alloc | apply Kd.Q_drewN | apply Kd.Q_drew)); exact Kd.Q_mono HO335.out (fun _ hk => ⟨hk.1.1.1.2, ⟨hk.1.1.2, ⟨hk.1.2, hk.2⟩⟩⟩)⟩, ⟨by (with_reducible repeat (first | refine blk_drewN ?_ _ | refine blk_drew ?_ | refine blk_alloc ?_ _)); exact BK315.out⟩, ⟨by (with_reducible repeat (first | refine blk_drewN ?_ _ | refine blk_drew ?_ | refine blk_alloc ?_ _)); exact BK321.out⟩, ⟨by (with_reducible repeat (first | refine blk_drewN ?_ _ | refine blk_drew ?_ | refine blk_alloc ?_ _)); exact BK327.out⟩, ⟨by (with_reducible repeat (first | refine blk_drewN ?_ _ | refine blk_drew ?_ | refine blk_alloc ?_ _)); exact BK332.out⟩, ⟨by repeat (first | (with_reducible first | exact HB.out | apply below_alloc | apply pw_below_drewN | apply below_drew1 | refine below_set ?_ GE315.out | refine below_set ?_ GE321.out | refine below_set ?_ GE327.out | refine below_set ?_ GE332.out) | exact HB.out)⟩⟩
        ·rw [if_neg c63] at H
         have c63b0 : (t337.toList == t322.toList) = false := beq_eq_false_iff_ne.mpr c63
         have c63b1 : (t337.toList != t322.toList) = true := bne_iff_ne.mpr c63
         have H' := aM H
         clear H
         have hnb81 := NB315_321.out
         have hnc81 := NB321_315.out
         have hnb82 := NB315_327.out
         have hnc82 := NB327_315.out
         have hnb83 := NB315_332.out
         have hnc83 := NB332_315.out
         have hcz84_0 : w32.cell? ⟨gb315, 0, none⟩ = some (.string t312) := (blk_cell BK315.out 0).trans rfl
         have hcz84_1 : w32.cell? ⟨gb315, 1, none⟩ = some (.int .i64 t313) := (blk_cell BK315.out 1).trans rfl
         have hcz84_2 : w32.cell? ⟨gb315, 2, none⟩ = some (.int .i64 t314) := (blk_cell BK315.out 2).trans rfl
         have hfz84_0 := blk_frozen BK315.out 0
         have hfz84_1 := blk_frozen BK315.out 1
         have hfz84_2 := blk_frozen BK315.out 2
         go_wp2_with (first | ((with_reducible refine gate_callee (f := 24) rfl ?_); refine goesL_ (some 39) rfl rfl Tryd.func24 (by kernel_rfl) rfl #[.agg #[.string t312, .int .i64 t313, .int .i64 t314]] rfl (by (try simp only [List.map_toArray, List.map_cons, List.map_nil]); first | done | rfl | (simp only [List.length_drop, List.length_take]; rfl)) ?_; (with_reducible refine (spec_IsValidRelation.calls t312 t313 t314 t336 _ A33.out).mono ?_); rintro e w85 ⟨rfl, hb⟩; refine ⟨_, rfl, ?_⟩; have n0_ := aM (Kd.Q_below (by (with_reducible repeat (first | apply Kd.Q_alloc | apply Kd.Q_drewN | apply Kd.Q_drew)); exact HO335.out) hb); have n1_ := aM (blk_below (g := gb315) (o := .cells #[.string t312, .int .i64 t313, .int .i64 t314] 28 (0, 0)) aK hb); have n2_ := aM (blk_below (g := gb321) (o := .cells #[.string t317, .int .i64 t318, .int .i64 t319] 28 (0, 0)) aK hb); have n3_ := aM (blk_below (g := gb327) (o := .cells #[.string t323, .int .i64 t324, .int .i64 t325] 28 (0, 0)) aK hb); have n4_ := aM (blk_below (g := gb332) (o := .cells #[.string t328, .int .i64 t329, .int .i64 t330] 28 (0, 0)) aK hb); have n5_ := aM (below_step aG hb); clear HO335; clear BK315; clear BK321; clear BK327; clear BK332; clear HB; have HO335 := n0_; have BK315 := n1_; have BK321 := n2_; have BK327 := n3_; have BK332 := n4_; have HB := n5_; clear n0_ n1_ n2_ n3_ n4_ n5_; (try clear hb); (try clear hb2); (try clear hk); (try clear hi); have hnb86 := NB321_327.out; have hnc86 := NB327_321.out; have hnb87 := NB321_332.out; have hnc87 := NB332_321.out; have hcz88_0 : w85.cell? ⟨gb321, 0, none⟩ = some (.string t317) := (blk_cell BK321.out 0).trans rfl; have hcz88_1 : w85.cell? ⟨gb321, 1, none⟩ = some (.int .i64 t318) := (blk_cell BK321.out 1).trans rfl; have hcz88_2 : w85.cell? ⟨gb321, 2, none⟩ = some (.int .i64 t319) := (blk_cell BK321.out 2).trans rfl; have hfz88_0 := blk_frozen BK321.out 0; have hfz88_1 := blk_frozen BK321.out 1; have hfz88_2 := blk_frozen BK321.out 2; have hcz89_0 : w85.cell? ⟨gb315, 0, none⟩ = some (.string t312) := (blk_cell BK315.out 0).trans rfl; have hcz89_1 : w85.cell? ⟨gb315, 1, none⟩ = some (.int .i64 t313) := (blk_cell BK315.out 1).trans rfl; have hcz89_2 : w85.cell? ⟨gb315, 2, none⟩ = some (.int .i64 t314) := (blk_cell BK315.out 2).trans rfl; have hfz89_0 := blk_frozen BK315.out 0; have hfz89_1 := blk_frozen BK315.out 1; have hfz89_2 := blk_frozen BK315.out 2; have hnb90 := NB327_332.out; have hnc90 := NB332_327.out; have hcz91_0 : w85.cell? ⟨gb327, 0, none⟩ = some (.string t323) := (blk_cell BK327.out 0).trans rfl; have hcz91_1 : w85.cell? ⟨gb327, 1, none⟩ = some (.int .i64 t324) := (blk_cell BK327.out 1).trans rfl; have hcz91_2 : w85.cell? ⟨gb327, 2, none⟩ = some (.int .i64 t325) := (blk_cell BK327.out 2).trans rfl; have hfz91_0 := blk_frozen BK327.out 0; have hfz91_1 := blk_frozen BK327.out 1; have hfz91_2 := blk_frozen BK327.out 2) | (go_at_call 16; (with_reducible refine (impl_FormatRelation.calls t323 t324 t325 t337 _ A62.out (hp_.on (by repeat (first | (with_reducible first | exact HB.out | apply below_alloc | apply pw_below_drewN | apply below_drew1 | refine below_set ?_ GE315.out | refine below_set ?_ GE321.out | refine below_set ?_ GE327.out | refine below_set ?_ GE332.out) | exact HB.out)))).mono ?_); rintro e w92 ⟨rfl, hb⟩; have n0_ := aM (Kd.Q_below (by (with_reducible repeat (first | apply Kd.Q_alloc | apply Kd.Q_drewN | apply Kd.Q_drew)); exact HO335.out) hb); have n1_ := aM (blk_below (g := gb315) (o := .cells #[.string t312, .int .i64 t313, .int .i64 t314] 28 (0, 0)) aK hb); have n2_ := aM (blk_below (g := gb321) (o := .cells #[.string t317, .int .i64 t318, .int .i64 t319] 28 (0, 0)) aK hb); have n3_ := aM (blk_below (g := gb327) (o := .cells #[.string t323, .int .i64 t324, .int .i64 t325] 28 (0, 0)) aK hb); have n4_ := aM (blk_below (g := gb332) (o := .cells #[.string t328, .int .i64 t329, .int .i64 t330] 28 (0, 0)) aK hb); have n5_ := aM (below_step aG hb); clear HO335; clear BK315; clear BK321; clear BK327; clear BK332; clear HB; have HO335 := n0_; have BK315 := n1_; have BK321 := n2_; have BK327 := n3_; have BK332 := n4_; have HB := n5_; clear n0_ n1_ n2_ n3_ n4_ n5_; (try clear hb); (try clear hb2); (try clear hk); (try clear hi)))
         go_meet
         case rel => exact ⟨_, (true), (by first | rfl | (simp; done) | (simp [*]; done)), H', ⟨by first | omega | exact Nat.le_refl _⟩, ⟨by (with_reducible repeat (first | apply Kd.Q_alloc | apply Kd.Q_drewN | apply Kd.Q_drew)); exact Kd.Q_mono HO335.out (fun _ hk => ⟨hk.1.1.1.2, ⟨hk.1.1.2, ⟨hk.1.2, hk.2⟩⟩⟩)⟩, ⟨by (with_reducible repeat (first | refine blk_drewN ?_ _ | refine blk_drew ?_ | refine blk_alloc ?_ _)); exact BK315.out⟩, ⟨by (with_reducible repeat (first | refine blk_drewN ?_ _ | refine blk_drew ?_ | refine blk_alloc ?_ _)); exact BK321.out⟩, ⟨by (with_reducible repeat (first | refine blk_drewN ?_ _ | refine blk_drew ?_ | refine blk_alloc ?_ _)); exact BK327.out⟩, ⟨by (with_reducible repeat (first | refine blk_drewN ?_ _ | refine blk_drew ?_ | refine blk_alloc ?_ _)); exact BK332.out⟩, ⟨by repeat (first | (with_reducible first | exact HB.out | apply below_alloc | apply pw_below_drewN | apply below_drew1 | refine below_set ?_ GE315.out | refine below_set ?_ GE321.out | refine below_set ?_ GE327.out | refine below_set ?_ GE332.out) | exact HB.out)⟩⟩
       ·replace c61 := Bool.eq_false_iff.mpr c61
        subst c61
        have H1 : ((impl_AreValidRelations.f t333).bind fun t340 => ((spec_AreValidRelations.f t333).bind fun t341 => (laws_FnRelationFormat.j0 k t333 (t340 != t341)))) = some r := by rw [if_neg (show ¬ (false = true) by decide)] at H; exact H
        clear H
        have H := H1
        clear H1
        replace H := Option.bind_eq_some_iff.mp H
        obtain ⟨t340, A930, H⟩ := H
        replace H : ((spec_AreValidRelations.f t333).bind fun t341 => (laws_FnRelationFormat.j0 k t333 (t340 != t341))) = some r := H
        have A93 := aM A930
        clear A930
        replace H := Option.bind_eq_some_iff.mp H
        obtain ⟨t341, A940, H⟩ := H
        replace H : (laws_FnRelationFormat.j0 k t333 (t340 != t341)) = some r := H
        have A94 := aM A940
        clear A940
        have H' := aM H
        clear H
        have hnb95 := NB315_321.out
        have hnc95 := NB321_315.out
        have hnb96 := NB315_327.out
        have hnc96 := NB327_315.out
        have hnb97 := NB315_332.out
        have hnc97 := NB332_315.out
        have hcz98_0 : w32.cell? ⟨gb315, 0, none⟩ = some (.string t312) := (blk_cell BK315.out 0).trans rfl
        have hcz98_1 : w32.cell? ⟨gb315, 1, none⟩ = some (.int .i64 t313) := (blk_cell BK315.out 1).trans rfl
        have hcz98_2 : w32.cell? ⟨gb315, 2, none⟩ = some (.int .i64 t314) := (blk_cell BK315.out 2).trans rfl
        have hfz98_0 := blk_frozen BK315.out 0
        have hfz98_1 := blk_frozen BK315.out 1
        have hfz98_2 := blk_frozen BK315.out 2
        go_wp2_with (first | ((with_reducible refine gate_callee (f := 24) rfl ?_); refine goesL_ (some 39) rfl rfl Tryd.func24 (by kernel_rfl) rfl #[.agg #[.string t312, .int .i64 t313, .int .i64 t314]] rfl (by (try simp only [List.map_toArray, List.map_cons, List.map_nil]); first | done | rfl | (simp only [List.length_drop, List.length_take]; rfl)) ?_; (with_reducible refine (spec_IsValidRelation.calls t312 t313 t314 t336 _ A33.out).mono ?_); rintro e w99 ⟨rfl, hb⟩; refine ⟨_, rfl, ?_⟩; have n0_ := aM (Kd.Q_below (by (with_reducible repeat (first | apply Kd.Q_alloc | apply Kd.Q_drewN | apply Kd.Q_drew)); exact HO335.out) hb); have n1_ := aM (blk_below (g := gb315) (o := .cells #[.string t312, .int .i64 t313, .int .i64 t314] 28 (0, 0)) aK hb); have n2_ := aM (blk_below (g := gb321) (o := .cells #[.string t317, .int .i64 t318, .int .i64 t319] 28 (0, 0)) aK hb); have n3_ := aM (blk_below (g := gb327) (o := .cells #[.string t323, .int .i64 t324, .int .i64 t325] 28 (0, 0)) aK hb); have n4_ := aM (blk_below (g := gb332) (o := .cells #[.string t328, .int .i64 t329, .int .i64 t330] 28 (0, 0)) aK hb); have n5_ := aM (below_step aG hb); clear HO335; clear BK315; clear BK321; clear BK327; clear BK332; clear HB; have HO335 := n0_; have BK315 := n1_; have BK321 := n2_; have BK327 := n3_; have BK332 := n4_; have HB := n5_; clear n0_ n1_ n2_ n3_ n4_ n5_; (try clear hb); (try clear hb2); (try clear hk); (try clear hi); have hnb100 := NB321_327.out; have hnc100 := NB327_321.out; have hnb101 := NB321_332.out; have hnc101 := NB332_321.out; have hcz102_0 : w99.cell? ⟨gb321, 0, none⟩ = some (.string t317) := (blk_cell BK321.out 0).trans rfl; have hcz102_1 : w99.cell? ⟨gb321, 1, none⟩ = some (.int .i64 t318) := (blk_cell BK321.out 1).trans rfl; have hcz102_2 : w99.cell? ⟨gb321, 2, none⟩ = some (.int .i64 t319) := (blk_cell BK321.out 2).trans rfl; have hfz102_0 := blk_frozen BK321.out 0; have hfz102_1 := blk_frozen BK321.out 1; have hfz102_2 := blk_frozen BK321.out 2; have hcz103_0 : w99.cell? ⟨gb315, 0, none⟩ = some (.string t312) := (blk_cell BK315.out 0).trans rfl; have hcz103_1 : w99.cell? ⟨gb315, 1, none⟩ = some (.int .i64 t313) := (blk_cell BK315.out 1).trans rfl; have hcz103_2 : w99.cell? ⟨gb315, 2, none⟩ = some (.int .i64 t314) := (blk_cell BK315.out 2).trans rfl; have hfz103_0 := blk_frozen BK315.out 0; have hfz103_1 := blk_frozen BK315.out 1; have hfz103_2 := blk_frozen BK315.out 2; obtain ⟨Ao104, co104, eo104, _⟩ := Kd.Q_slice HO335.out; subst eo104) | (go_at_call 25; (with_reducible refine (impl_AreValidRelations.calls _ _ t333 t340 _ ?side1 ?side2 A93.out).mono ?_); (case side1 => repeat (first | exact (Kd.Q_reads' HO335.out).2.2 | (with_reducible refine Kd.C_alloc ?_ _) | (with_reducible refine Kd.C_drewN ?_ _) | (with_reducible refine Kd.C_drew ?_))); (case side2 => exact (Kd.Q_reads' HO335.out).2.1); rintro e w105 ⟨rfl, hb⟩; have n0_ := aM (Kd.Q_below (by (with_reducible repeat (first | apply Kd.Q_alloc | apply Kd.Q_drewN | apply Kd.Q_drew)); exact HO335.out) hb); have n1_ := aM (blk_below (g := gb315) (o := .cells #[.string t312, .int .i64 t313, .int .i64 t314] 28 (0, 0)) aK hb); have n2_ := aM (blk_below (g := gb321) (o := .cells #[.string t317, .int .i64 t318, .int .i64 t319] 28 (0, 0)) aK hb); have n3_ := aM (blk_below (g := gb327) (o := .cells #[.string t323, .int .i64 t324, .int .i64 t325] 28 (0, 0)) aK hb); have n4_ := aM (blk_below (g := gb332) (o := .cells #[.string t328, .int .i64 t329, .int .i64 t330] 28 (0, 0)) aK hb); have n5_ := aM (below_step aG hb); clear HO335; clear BK315; clear BK321; clear BK327; clear BK332; clear HB; have HO335 := n0_; have BK315 := n1_; have BK321 := n2_; have BK327 := n3_; have BK332 := n4_; have HB := n5_; clear n0_ n1_ n2_ n3_ n4_ n5_; (try clear hb); (try clear hb2); (try clear hk); (try clear hi)) | (go_at_call 26; (with_reducible refine (spec_AreValidRelations.calls _ _ t333 t341 _ ?side1 ?side2 A94.out).mono ?_); (case side1 => repeat (first | exact (Kd.Q_reads' HO335.out).2.2 | (with_reducible refine Kd.C_alloc ?_ _) | (with_reducible refine Kd.C_drewN ?_ _) | (with_reducible refine Kd.C_drew ?_))); (case side2 => exact (Kd.Q_reads' HO335.out).2.1); rintro e w106 ⟨rfl, hb⟩; have n0_ := aM (Kd.Q_below (by (with_reducible repeat (first | apply Kd.Q_alloc | apply Kd.Q_drewN | apply Kd.Q_drew)); exact HO335.out) hb); have n1_ := aM (blk_below (g := gb315) (o := .cells #[.string t312, .int .i64 t313, .int .i64 t314] 28 (0, 0)) aK hb); have n2_ := aM (blk_below (g := gb321) (o := .cells #[.string t317, .int .i64 t318, .int .i64 t319] 28 (0, 0)) aK hb); have n3_ := aM (blk_below (g := gb327) (o := .cells #[.string t323, .int .i64 t324, .int .i64 t325] 28 (0, 0)) aK hb); have n4_ := aM (blk_below (g := gb332) (o := .cells #[.string t328, .int .i64 t329, .int .i64 t330] 28 (0, 0)) aK hb); have n5_ := aM (below_step aG hb); clear HO335; clear BK315; clear BK321; clear BK327; clear BK332; clear HB; have HO335 := n0_; have BK315 := n1_; have BK321 := n2_; have BK327 := n3_; have BK332 := n4_; have HB := n5_; clear n0_ n1_ n2_ n3_ n4_ n5_; (try clear hb); (try clear hb2); (try clear hk); (try clear hi)))
        go_meet
        case rel => exact ⟨_, ((t340 != t341)), (by first | rfl | (simp; done) | (simp [*]; done)), H', ⟨by first | omega | exact Nat.le_refl _⟩, ⟨by (with_reducible repeat (first | apply Kd.Q_alloc | apply Kd.Q_drewN | apply Kd.Q_drew)); exact Kd.Q_mono HO335.out (fun _ hk => ⟨hk.1.1.1.2, ⟨hk.1.1.2, ⟨hk.1.2, hk.2⟩⟩⟩)⟩, ⟨by (with_reducible repeat (first | refine blk_drewN ?_ _ | refine blk_drew ?_ | refine blk_alloc ?_ _)); exact BK315.out⟩, ⟨by (with_reducible repeat (first | refine blk_drewN ?_ _ | refine blk_drew ?_ | refine blk_alloc ?_ _)); exact BK321.out⟩, ⟨by (with_reducible repeat (first | refine blk_drewN ?_ _ | refine blk_drew ?_ | refine blk_alloc ?_ _)); exact BK327.out⟩, ⟨by (with_reducible repeat (first | refine blk_drewN ?_ _ | refine blk_drew ?_ | refine blk_alloc ?_ _)); exact BK332.out⟩, ⟨by repeat (first | (with_reducible first | exact HB.out | apply below_alloc | apply pw_below_drewN | apply below_drew1 | refine below_set ?_ GE315.out | refine below_set ?_ GE321.out | refine below_set ?_ GE327.out | refine below_set ?_ GE332.out) | exact HB.out)⟩⟩
    ·replace c40 := Bool.eq_false_iff.mpr c40
     subst c40
     have H1 : (if (t326 != t331) = true then (laws_FnRelationFormat.j0 k t333 true) else (if t326 = true then ((impl_FormatRelation.f t323 t324 t325).bind fun t342 => (if t342.toList = t322.toList then ((impl_AreValidRelations.f t333).bind fun t343 => ((spec_AreValidRelations.f t333).bind fun t344 => (laws_FnRelationFormat.j0 k t333 (t343 != t344)))) else (laws_FnRelationFormat.j0 k t333 true))) else ((impl_AreValidRelations.f t333).bind fun t345 => ((spec_AreValidRelations.f t333).bind fun t346 => (laws_FnRelationFormat.j0 k t333 (t345 != t346)))))) = some r := by rw [if_neg (show ¬ (false = true) by decide)] at H; exact H
     clear H
     have H := H1
     clear H1
     by_cases c107 : (t326 != t331) = true
     ·rw [if_pos c107] at H
      have c107b0 : (t326 != t331) = true := c107
      (try (have c107b1 : decide (t326 = t331) = false := by simpa using c107))
      (try (have c107b2 : (t326 == t331) = false := by simpa using c107))
      (try (have c107b3 : ¬ (t326 = t331) := by simpa using c107))
      clear c107
      have H' := aM H
      clear H
      have hnb108 := NB315_321.out
      have hnc108 := NB321_315.out
      have hnb109 := NB315_327.out
      have hnc109 := NB327_315.out
      have hnb110 := NB315_332.out
      have hnc110 := NB332_315.out
      have hcz111_0 : w32.cell? ⟨gb315, 0, none⟩ = some (.string t312) := (blk_cell BK315.out 0).trans rfl
      have hcz111_1 : w32.cell? ⟨gb315, 1, none⟩ = some (.int .i64 t313) := (blk_cell BK315.out 1).trans rfl
      have hcz111_2 : w32.cell? ⟨gb315, 2, none⟩ = some (.int .i64 t314) := (blk_cell BK315.out 2).trans rfl
      have hfz111_0 := blk_frozen BK315.out 0
      have hfz111_1 := blk_frozen BK315.out 1
      have hfz111_2 := blk_frozen BK315.out 2
      go_wp2_with (first | ((with_reducible refine gate_callee (f := 24) rfl ?_); refine goesL_ (some 39) rfl rfl Tryd.func24 (by kernel_rfl) rfl #[.agg #[.string t312, .int .i64 t313, .int .i64 t314]] rfl (by (try simp only [List.map_toArray, List.map_cons, List.map_nil]); first | done | rfl | (simp only [List.length_drop, List.length_take]; rfl)) ?_; (with_reducible refine (spec_IsValidRelation.calls t312 t313 t314 t336 _ A33.out).mono ?_); rintro e w112 ⟨rfl, hb⟩; refine ⟨_, rfl, ?_⟩; have n0_ := aM (Kd.Q_below (by (with_reducible repeat (first | apply Kd.Q_alloc | apply Kd.Q_drewN | apply Kd.Q_drew)); exact HO335.out) hb); have n1_ := aM (blk_below (g := gb315) (o := .cells #[.string t312, .int .i64 t313, .int .i64 t314] 28 (0, 0)) aK hb); have n2_ := aM (blk_below (g := gb321) (o := .cells #[.string t317, .int .i64 t318, .int .i64 t319] 28 (0, 0)) aK hb); have n3_ := aM (blk_below (g := gb327) (o := .cells #[.string t323, .int .i64 t324, .int .i64 t325] 28 (0, 0)) aK hb); have n4_ := aM (blk_below (g := gb332) (o := .cells #[.string t328, .int .i64 t329, .int .i64 t330] 28 (0, 0)) aK hb); have n5_ := aM (below_step aG hb); clear HO335; clear BK315; clear BK321; clear BK327; clear BK332; clear HB; have HO335 := n0_; have BK315 := n1_; have BK321 := n2_; have BK327 := n3_; have BK332 := n4_; have HB := n5_; clear n0_ n1_ n2_ n3_ n4_ n5_; (try clear hb); (try clear hb2); (try clear hk); (try clear hi)))
      go_meet
      case rel => exact ⟨_, (true), (by first | rfl | (simp; done) | (simp [*]; done)), H', ⟨by first | omega | exact Nat.le_refl _⟩, ⟨by (with_reducible repeat (first | apply Kd.Q_alloc | apply Kd.Q_drewN | apply Kd.Q_drew)); exact Kd.Q_mono HO335.out (fun _ hk => ⟨hk.1.1.1.2, ⟨hk.1.1.2, ⟨hk.1.2, hk.2⟩⟩⟩)⟩, ⟨by (with_reducible repeat (first | refine blk_drewN ?_ _ | refine blk_drew ?_ | refine blk_alloc ?_ _)); exact BK315.out⟩, ⟨by (with_reducible repeat (first | refine blk_drewN ?_ _ | refine blk_drew ?_ | refine blk_alloc ?_ _)); exact BK321.out⟩, ⟨by (with_reducible repeat (first | refine blk_drewN ?_ _ | refine blk_drew ?_ | refine blk_alloc ?_ _)); exact BK327.out⟩, ⟨by (with_reducible repeat (first | refine blk_drewN ?_ _ | refine blk_drew ?_ | refine blk_alloc ?_ _)); exact BK332.out⟩, ⟨by repeat (first | (with_reducible first | exact HB.out | apply below_alloc | apply pw_below_drewN | apply below_drew1 | refine below_set ?_ GE315.out | refine below_set ?_ GE321.out | refine below_set ?_ GE327.out | refine below_set ?_ GE332.out) | exact HB.out)⟩⟩
     ·rw [if_neg c107] at H
      have c107b0 : (t326 != t331) = false := by simpa using c107
      (try (have c107b1 : decide (t326 = t331) = true := by simpa using c107))
      (try (have c107b2 : (t326 == t331) = true := by simpa using c107))
      clear c107
      by_cases c113 : t326 = true
      ·subst c113
       have H1 : ((impl_FormatRelation.f t323 t324 t325).bind fun t342 => (if t342.toList = t322.toList then ((impl_AreValidRelations.f t333).bind fun t343 => ((spec_AreValidRelations.f t333).bind fun t344 => (laws_FnRelationFormat.j0 k t333 (t343 != t344)))) else (laws_FnRelationFormat.j0 k t333 true))) = some r := by rw [if_pos rfl] at H; exact H
       clear H
       have H := H1
       clear H1
       replace H := Option.bind_eq_some_iff.mp H
       obtain ⟨t342, A1140, H⟩ := H
       replace H : (if t342.toList = t322.toList then ((impl_AreValidRelations.f t333).bind fun t343 => ((spec_AreValidRelations.f t333).bind fun t344 => (laws_FnRelationFormat.j0 k t333 (t343 != t344)))) else (laws_FnRelationFormat.j0 k t333 true)) = some r := H
       have A114 := aM A1140
       clear A1140
       by_cases c115 : t342.toList = t322.toList
       ·rw [if_pos c115] at H
        have c115b0 : (t342.toList == t322.toList) = true := beq_iff_eq.mpr c115
        have c115b1 : (t342.toList != t322.toList) = false := bne_eq_false_iff_eq.mpr c115
        clear c115
        replace H := Option.bind_eq_some_iff.mp H
        obtain ⟨t343, A1160, H⟩ := H
        replace H : ((spec_AreValidRelations.f t333).bind fun t344 => (laws_FnRelationFormat.j0 k t333 (t343 != t344))) = some r := H
        have A116 := aM A1160
        clear A1160
        replace H := Option.bind_eq_some_iff.mp H
        obtain ⟨t344, A1170, H⟩ := H
        replace H : (laws_FnRelationFormat.j0 k t333 (t343 != t344)) = some r := H
        have A117 := aM A1170
        clear A1170
        have H' := aM H
        clear H
        have hnb118 := NB315_321.out
        have hnc118 := NB321_315.out
        have hnb119 := NB315_327.out
        have hnc119 := NB327_315.out
        have hnb120 := NB315_332.out
        have hnc120 := NB332_315.out
        have hcz121_0 : w32.cell? ⟨gb315, 0, none⟩ = some (.string t312) := (blk_cell BK315.out 0).trans rfl
        have hcz121_1 : w32.cell? ⟨gb315, 1, none⟩ = some (.int .i64 t313) := (blk_cell BK315.out 1).trans rfl
        have hcz121_2 : w32.cell? ⟨gb315, 2, none⟩ = some (.int .i64 t314) := (blk_cell BK315.out 2).trans rfl
        have hfz121_0 := blk_frozen BK315.out 0
        have hfz121_1 := blk_frozen BK315.out 1
        have hfz121_2 := blk_frozen BK315.out 2
        go_wp2_with (first | ((with_reducible refine gate_callee (f := 24) rfl ?_); refine goesL_ (some 39) rfl rfl Tryd.func24 (by kernel_rfl) rfl #[.agg #[.string t312, .int .i64 t313, .int .i64 t314]] rfl (by (try simp only [List.map_toArray, List.map_cons, List.map_nil]); first | done | rfl | (simp only [List.length_drop, List.length_take]; rfl)) ?_; (with_reducible refine (spec_IsValidRelation.calls t312 t313 t314 t336 _ A33.out).mono ?_); rintro e w122 ⟨rfl, hb⟩; refine ⟨_, rfl, ?_⟩; have n0_ := aM (Kd.Q_below (by (with_reducible repeat (first | apply Kd.Q_alloc | apply Kd.Q_drewN | apply Kd.Q_drew)); exact HO335.out) hb); have n1_ := aM (blk_below (g := gb315) (o := .cells #[.string t312, .int .i64 t313, .int .i64 t314] 28 (0, 0)) aK hb); have n2_ := aM (blk_below (g := gb321) (o := .cells #[.string t317, .int .i64 t318, .int .i64 t319] 28 (0, 0)) aK hb); have n3_ := aM (blk_below (g := gb327) (o := .cells #[.string t323, .int .i64 t324, .int .i64 t325] 28 (0, 0)) aK hb); have n4_ := aM (blk_below (g := gb332) (o := .cells #[.string t328, .int .i64 t329, .int .i64 t330] 28 (0, 0)) aK hb); have n5_ := aM (below_step aG hb); clear HO335; clear BK315; clear BK321; clear BK327; clear BK332; clear HB; have HO335 := n0_; have BK315 := n1_; have BK321 := n2_; have BK327 := n3_; have BK332 := n4_; have HB := n5_; clear n0_ n1_ n2_ n3_ n4_ n5_; (try clear hb); (try clear hb2); (try clear hk); (try clear hi); have hnb123 := NB327_321.out; have hnc123 := NB321_327.out; have hnb124 := NB327_332.out; have hnc124 := NB332_327.out; have hcz125_0 : w122.cell? ⟨gb327, 0, none⟩ = some (.string t323) := (blk_cell BK327.out 0).trans rfl; have hcz125_1 : w122.cell? ⟨gb327, 1, none⟩ = some (.int .i64 t324) := (blk_cell BK327.out 1).trans rfl; have hcz125_2 : w122.cell? ⟨gb327, 2, none⟩ = some (.int .i64 t325) := (blk_cell BK327.out 2).trans rfl; have hfz125_0 := blk_frozen BK327.out 0; have hfz125_1 := blk_frozen BK327.out 1; have hfz125_2 := blk_frozen BK327.out 2) | (go_at_call 16; (with_reducible refine (impl_FormatRelation.calls t323 t324 t325 t342 _ A114.out (hp_.on (by repeat (first | (with_reducible first | exact HB.out | apply below_alloc | apply pw_below_drewN | apply below_drew1 | refine below_set ?_ GE315.out | refine below_set ?_ GE321.out | refine below_set ?_ GE327.out | refine below_set ?_ GE332.out) | exact HB.out)))).mono ?_); rintro e w126 ⟨rfl, hb⟩; have n0_ := aM (Kd.Q_below (by (with_reducible repeat (first | apply Kd.Q_alloc | apply Kd.Q_drewN | apply Kd.Q_drew)); exact HO335.out) hb); have n1_ := aM (blk_below (g := gb315) (o := .cells #[.string t312, .int .i64 t313, .int .i64 t314] 28 (0, 0)) aK hb); have n2_ := aM (blk_below (g := gb321) (o := .cells #[.string t317, .int .i64 t318, .int .i64 t319] 28 (0, 0)) aK hb); have n3_ := aM (blk_below (g := gb327) (o := .cells #[.string t323, .int .i64 t324, .int .i64 t325] 28 (0, 0)) aK hb); have n4_ := aM (blk_below (g := gb332) (o := .cells #[.string t328, .int .i64 t329, .int .i64 t330] 28 (0, 0)) aK hb); have n5_ := aM (below_step aG hb); clear HO335; clear BK315; clear BK321; clear BK327; clear BK332; clear HB; have HO335 := n0_; have BK315 := n1_; have BK321 := n2_; have BK327 := n3_; have BK332 := n4_; have HB := n5_; clear n0_ n1_ n2_ n3_ n4_ n5_; (try clear hb); (try clear hb2); (try clear hk); (try clear hi); obtain ⟨Ao127, co127, eo127, _⟩ := Kd.Q_slice HO335.out; subst eo127) | (go_at_call 25; (with_reducible refine (impl_AreValidRelations.calls _ _ t333 t343 _ ?side1 ?side2 A116.out).mono ?_); (case side1 => repeat (first | exact (Kd.Q_reads' HO335.out).2.2 | (with_reducible refine Kd.C_alloc ?_ _) | (with_reducible refine Kd.C_drewN ?_ _) | (with_reducible refine Kd.C_drew ?_))); (case side2 => exact (Kd.Q_reads' HO335.out).2.1); rintro e w128 ⟨rfl, hb⟩; have n0_ := aM (Kd.Q_below (by (with_reducible repeat (first | apply Kd.Q_alloc | apply Kd.Q_drewN | apply Kd.Q_drew)); exact HO335.out) hb); have n1_ := aM (blk_below (g := gb315) (o := .cells #[.string t312, .int .i64 t313, .int .i64 t314] 28 (0, 0)) aK hb); have n2_ := aM (blk_below (g := gb321) (o := .cells #[.string t317, .int .i64 t318, .int .i64 t319] 28 (0, 0)) aK hb); have n3_ := aM (blk_below (g := gb327) (o := .cells #[.string t323, .int .i64 t324, .int .i64 t325] 28 (0, 0)) aK hb); have n4_ := aM (blk_below (g := gb332) (o := .cells #[.string t328, .int .i64 t329, .int .i64 t330] 28 (0, 0)) aK hb); have n5_ := aM (below_step aG hb); clear HO335; clear BK315; clear BK321; clear BK327; clear BK332; clear HB; have HO335 := n0_; have BK315 := n1_; have BK321 := n2_; have BK327 := n3_; have BK332 := n4_; have HB := n5_; clear n0_ n1_ n2_ n3_ n4_ n5_; (try clear hb); (try clear hb2); (try clear hk); (try clear hi)) | (go_at_call 26; (with_reducible refine (spec_AreValidRelations.calls _ _ t333 t344 _ ?side1 ?side2 A117.out).mono ?_); (case side1 => repeat (first | exact (Kd.Q_reads' HO335.out).2.2 | (with_reducible refine Kd.C_alloc ?_ _) | (with_reducible refine Kd.C_drewN ?_ _) | (with_reducible refine Kd.C_drew ?_))); (case side2 => exact (Kd.Q_reads' HO335.out).2.1); rintro e w129 ⟨rfl, hb⟩; have n0_ := aM (Kd.Q_below (by (with_reducible repeat (first | apply Kd.Q_alloc | apply Kd.Q_drewN | apply Kd.Q_drew)); exact HO335.out) hb); have n1_ := aM (blk_below (g := gb315) (o := .cells #[.string t312, .int .i64 t313, .int .i64 t314] 28 (0, 0)) aK hb); have n2_ := aM (blk_below (g := gb321) (o := .cells #[.string t317, .int .i64 t318, .int .i64 t319] 28 (0, 0)) aK hb); have n3_ := aM (blk_below (g := gb327) (o := .cells #[.string t323, .int .i64 t324, .int .i64 t325] 28 (0, 0)) aK hb); have n4_ := aM (blk_below (g := gb332) (o := .cells #[.string t328, .int .i64 t329, .int .i64 t330] 28 (0, 0)) aK hb); have n5_ := aM (below_step aG hb); clear HO335; clear BK315; clear BK321; clear BK327; clear BK332; clear HB; have HO335 := n0_; have BK315 := n1_; have BK321 := n2_; have BK327 := n3_; have BK332 := n4_; have HB := n5_; clear n0_ n1_ n2_ n3_ n4_ n5_; (try clear hb); (try clear hb2); (try clear hk); (try clear hi)))
        go_meet
        case rel => exact ⟨_, ((t343 != t344)), (by first | rfl | (simp; done) | (simp [*]; done)), H', ⟨by first | omega | exact Nat.le_refl _⟩, ⟨by (with_reducible repeat (first | apply Kd.Q_alloc | apply Kd.Q_drewN | apply Kd.Q_drew)); exact Kd.Q_mono HO335.out (fun _ hk => ⟨hk.1.1.1.2, ⟨hk.1.1.2, ⟨hk.1.2, hk.2⟩⟩⟩)⟩, ⟨by (with_reducible repeat (first | refine blk_drewN ?_ _ | refine blk_drew ?_ | refine blk_alloc ?_ _)); exact BK315.out⟩, ⟨by (with_reducible repeat (first | refine blk_drewN ?_ _ | refine blk_drew ?_ | refine blk_alloc ?_ _)); exact BK321.out⟩, ⟨by (with_reducible repeat (first | refine blk_drewN ?_ _ | refine blk_drew ?_ | refine blk_alloc ?_ _)); exact BK327.out⟩, ⟨by (with_reducible repeat (first | refine blk_drewN ?_ _ | refine blk_drew ?_ | refine blk_alloc ?_ _)); exact BK332.out⟩, ⟨by repeat (first | (with_reducible first | exact HB.out | apply below_alloc | apply pw_below_drewN | apply below_drew1 | refine below_set ?_ GE315.out | refine below_set ?_ GE321.out | refine below_set ?_ GE327.out | refine below_set ?_ GE332.out) | exact HB.out)⟩⟩
       ·rw [if_neg c115] at H
        have c115b0 : (t342.toList == t322.toList) = false := beq_eq_false_iff_ne.mpr c115
        have c115b1 : (t342.toList != t322.toList) = true := bne_iff_ne.mpr c115
        have H' := aM H
        clear H
        have hnb130 := NB315_321.out
        have hnc130 := NB321_315.out
        have hnb131 := NB315_327.out
        have hnc131 := NB327_315.out
        have hnb132 := NB315_332.out
        have hnc132 := NB332_315.out
        have hcz133_0 : w32.cell? ⟨gb315, 0, none⟩ = some (.string t312) := (blk_cell BK315.out 0).trans rfl
        have hcz133_1 : w32.cell? ⟨gb315, 1, none⟩ = some (.int .i64 t313) := (blk_cell BK315.out 1).trans rfl
        have hcz133_2 : w32.cell? ⟨gb315, 2, none⟩ = some (.int .i64 t314) := (blk_cell BK315.out 2).trans rfl
        have hfz133_0 := blk_frozen BK315.out 0
        have hfz133_1 := blk_frozen BK315.out 1
        have hfz133_2 := blk_frozen BK315.out 2
        go_wp2_with (first | ((with_reducible refine gate_callee (f := 24) rfl ?_); refine goesL_ (some 39) rfl rfl Tryd.func24 (by kernel_rfl) rfl #[.agg #[.string t312, .int .i64 t313, .int .i64 t314]] rfl (by (try simp only [List.map_toArray, List.map_cons, List.map_nil]); first | done | rfl | (simp only [List.length_drop, List.length_take]; rfl)) ?_; (with_reducible refine (spec_IsValidRelation.calls t312 t313 t314 t336 _ A33.out).mono ?_); rintro e w134 ⟨rfl, hb⟩; refine ⟨_, rfl, ?_⟩; have n0_ := aM (Kd.Q_below (by (with_reducible repeat (first | apply Kd.Q_alloc | apply Kd.Q_drewN | apply Kd.Q_drew)); exact HO335.out) hb); have n1_ := aM (blk_below (g := gb315) (o := .cells #[.string t312, .int .i64 t313, .int .i64 t314] 28 (0, 0)) aK hb); have n2_ := aM (blk_below (g := gb321) (o := .cells #[.string t317, .int .i64 t318, .int .i64 t319] 28 (0, 0)) aK hb); have n3_ := aM (blk_below (g := gb327) (o := .cells #[.string t323, .int .i64 t324, .int .i64 t325] 28 (0, 0)) aK hb); have n4_ := aM (blk_below (g := gb332) (o := .cells #[.string t328, .int .i64 t329, .int .i64 t330] 28 (0, 0)) aK hb); have n5_ := aM (below_step aG hb); clear HO335; clear BK315; clear BK321; clear BK327; clear BK332; clear HB; have HO335 := n0_; have BK315 := n1_; have BK321 := n2_; have BK327 := n3_; have BK332 := n4_; have HB := n5_; clear n0_ n1_ n2_ n3_ n4_ n5_; (try clear hb); (try clear hb2); (try clear hk); (try clear hi); have hnb135 := NB327_321.out; have hnc135 := NB321_327.out; have hnb136 := NB327_332.out; have hnc136 := NB332_327.out; have hcz137_0 : w134.cell? ⟨gb327, 0, none⟩ = some (.string t323) := (blk_cell BK327.out 0).trans rfl; have hcz137_1 : w134.cell? ⟨gb327, 1, none⟩ = some (.int .i64 t324) := (blk_cell BK327.out 1).trans rfl; have hcz137_2 : w134.cell? ⟨gb327, 2, none⟩ = some (.int .i64 t325) := (blk_cell BK327.out 2).trans rfl; have hfz137_0 := blk_frozen BK327.out 0; have hfz137_1 := blk_frozen BK327.out 1; have hfz137_2 := blk_frozen BK327.out 2) | (go_at_call 16; (with_reducible refine (impl_FormatRelation.calls t323 t324 t325 t342 _ A114.out (hp_.on (by repeat (first | (with_reducible first | exact HB.out | apply below_alloc | apply pw_below_drewN | apply below_drew1 | refine below_set ?_ GE315.out | refine below_set ?_ GE321.out | refine below_set ?_ GE327.out | refine below_set ?_ GE332.out) | exact HB.out)))).mono ?_); rintro e w138 ⟨rfl, hb⟩; have n0_ := aM (Kd.Q_below (by (with_reducible repeat (first | apply Kd.Q_alloc | apply Kd.Q_drewN | apply Kd.Q_drew)); exact HO335.out) hb); have n1_ := aM (blk_below (g := gb315) (o := .cells #[.string t312, .int .i64 t313, .int .i64 t314] 28 (0, 0)) aK hb); have n2_ := aM (blk_below (g := gb321) (o := .cells #[.string t317, .int .i64 t318, .int .i64 t319] 28 (0, 0)) aK hb); have n3_ := aM (blk_below (g := gb327) (o := .cells #[.string t323, .int .i64 t324, .int .i64 t325] 28 (0, 0)) aK hb); have n4_ := aM (blk_below (g := gb332) (o := .cells #[.string t328, .int .i64 t329, .int .i64 t330] 28 (0, 0)) aK hb); have n5_ := aM (below_step aG hb); clear HO335; clear BK315; clear BK321; clear BK327; clear BK332; clear HB; have HO335 := n0_; have BK315 := n1_; have BK321 := n2_; have BK327 := n3_; have BK332 := n4_; have HB := n5_; clear n0_ n1_ n2_ n3_ n4_ n5_; (try clear hb); (try clear hb2); (try clear hk); (try clear hi)))
        go_meet
        case rel => exact ⟨_, (true), (by first | rfl | (simp; done) | (simp [*]; done)), H', ⟨by first | omega | exact Nat.le_refl _⟩, ⟨by (with_reducible repeat (first | apply Kd.Q_alloc | apply Kd.Q_drewN | apply Kd.Q_drew)); exact Kd.Q_mono HO335.out (fun _ hk => ⟨hk.1.1.1.2, ⟨hk.1.1.2, ⟨hk.1.2, hk.2⟩⟩⟩)⟩, ⟨by (with_reducible repeat (first | refine blk_drewN ?_ _ | refine blk_drew ?_ | refine blk_alloc ?_ _)); exact BK315.out⟩, ⟨by (with_reducible repeat (first | refine blk_drewN ?_ _ | refine blk_drew ?_ | refine blk_alloc ?_ _)); exact BK321.out⟩, ⟨by (with_reducible repeat (first | refine blk_drewN ?_ _ | refine blk_drew ?_ | refine blk_alloc ?_ _)); exact BK327.out⟩, ⟨by (with_reducible repeat (first | refine blk_drewN ?_ _ | refine blk_drew ?_ | refine blk_alloc ?_ _)); exact BK332.out⟩, ⟨by repeat (first | (with_reducible first | exact HB.out | apply below_alloc | apply pw_below_drewN | apply below_drew1 | refine below_set ?_ GE315.out | refine below_set ?_ GE321.out | refine below_set ?_ GE327.out | refine below_set ?_ GE332.out) | exact HB.out)⟩⟩
      ·replace c113 := Bool.eq_false_iff.mpr c113
       subst c113
       have H1 : ((impl_AreValidRelations.f t333).bind fun t345 => ((spec_AreValidRelations.f t333).bind fun t346 => (laws_FnRelationFormat.j0 k t333 (t345 != t346)))) = some r := by rw [if_neg (show ¬ (false = true) by decide)] at H; exact H
       clear H
       have H := H1
       clear H1
       replace H := Option.bind_eq_some_iff.mp H
       obtain ⟨t345, A1390, H⟩ := H
       replace H : ((spec_AreValidRelations.f t333).bind fun t346 => (laws_FnRelationFormat.j0 k t333 (t345 != t346))) = some r := H
       have A139 := aM A1390
       clear A1390
       replace H := Option.bind_eq_some_iff.mp H
       obtain ⟨t346, A1400, H⟩ := H
       replace H : (laws_FnRelationFormat.j0 k t333 (t345 != t346)) = some r := H
       have A140 := aM A1400
       clear A1400
       have H' := aM H
       clear H
       have hnb141 := NB315_321.out
       have hnc141 := NB321_315.out
       have hnb142 := NB315_327.out
       have hnc142 := NB327_315.out
       have hnb143 := NB315_332.out
       have hnc143 := NB332_315.out
       have hcz144_0 : w32.cell? ⟨gb315, 0, none⟩ = some (.string t312) := (blk_cell BK315.out 0).trans rfl
       have hcz144_1 : w32.cell? ⟨gb315, 1, none⟩ = some (.int .i64 t313) := (blk_cell BK315.out 1).trans rfl
       have hcz144_2 : w32.cell? ⟨gb315, 2, none⟩ = some (.int .i64 t314) := (blk_cell BK315.out 2).trans rfl
       have hfz144_0 := blk_frozen BK315.out 0
       have hfz144_1 := blk_frozen BK315.out 1
       have hfz144_2 := blk_frozen BK315.out 2
       go_wp2_with (first | ((with_reducible refine gate_callee (f := 24) rfl ?_); refine goesL_ (some 39) rfl rfl Tryd.func24 (by kernel_rfl) rfl #[.agg #[.string t312, .int .i64 t313, .int .i64 t314]] rfl (by (try simp only [List.map_toArray, List.map_cons, List.map_nil]); first | done | rfl | (simp only [List.length_drop, List.length_take]; rfl)) ?_; (with_reducible refine (spec_IsValidRelation.calls t312 t313 t314 t336 _ A33.out).mono ?_); rintro e w145 ⟨rfl, hb⟩; refine ⟨_, rfl, ?_⟩; have n0_ := aM (Kd.Q_below (by (with_reducible repeat (first | apply Kd.Q_alloc | apply Kd.Q_drewN | apply Kd.Q_drew)); exact HO335.out) hb); have n1_ := aM (blk_below (g := gb315) (o := .cells #[.string t312, .int .i64 t313, .int .i64 t314] 28 (0, 0)) aK hb); have n2_ := aM (blk_below (g := gb321) (o := .cells #[.string t317, .int .i64 t318, .int .i64 t319] 28 (0, 0)) aK hb); have n3_ := aM (blk_below (g := gb327) (o := .cells #[.string t323, .int .i64 t324, .int .i64 t325] 28 (0, 0)) aK hb); have n4_ := aM (blk_below (g := gb332) (o := .cells #[.string t328, .int .i64 t329, .int .i64 t330] 28 (0, 0)) aK hb); have n5_ := aM (below_step aG hb); clear HO335; clear BK315; clear BK321; clear BK327; clear BK332; clear HB; have HO335 := n0_; have BK315 := n1_; have BK321 := n2_; have BK327 := n3_; have BK332 := n4_; have HB := n5_; clear n0_ n1_ n2_ n3_ n4_ n5_; (try clear hb); (try clear hb2); (try clear hk); (try clear hi); obtain ⟨Ao146, co146, eo146, _⟩ := Kd.Q_slice HO335.out; subst eo146) | (go_at_call 25; (with_reducible refine (impl_AreValidRelations.calls _ _ t333 t345 _ ?side1 ?side2 A139.out).mono ?_); (case side1 => repeat (first | exact (Kd.Q_reads' HO335.out).2.2 | (with_reducible refine Kd.C_alloc ?_ _) | (with_reducible refine Kd.C_drewN ?_ _) | (with_reducible refine Kd.C_drew ?_))); (case side2 => exact (Kd.Q_reads' HO335.out).2.1); rintro e w147 ⟨rfl, hb⟩; have n0_ := aM (Kd.Q_below (by (with_reducible repeat (first | apply Kd.Q_alloc | apply Kd.Q_drewN | apply Kd.Q_drew)); exact HO335.out) hb); have n1_ := aM (blk_below (g := gb315) (o := .cells #[.string t312, .int .i64 t313, .int .i64 t314] 28 (0, 0)) aK hb); have n2_ := aM (blk_below (g := gb321) (o := .cells #[.string t317, .int .i64 t318, .int .i64 t319] 28 (0, 0)) aK hb); have n3_ := aM (blk_below (g := gb327) (o := .cells #[.string t323, .int .i64 t324, .int .i64 t325] 28 (0, 0)) aK hb); have n4_ := aM (blk_below (g := gb332) (o := .cells #[.string t328, .int .i64 t329, .int .i64 t330] 28 (0, 0)) aK hb); have n5_ := aM (below_step aG hb); clear HO335; clear BK315; clear BK321; clear BK327; clear BK332; clear HB; have HO335 := n0_; have BK315 := n1_; have BK321 := n2_; have BK327 := n3_; have BK332 := n4_; have HB := n5_; clear n0_ n1_ n2_ n3_ n4_ n5_; (try clear hb); (try clear hb2); (try clear hk); (try clear hi)) | (go_at_call 26; (with_reducible refine (spec_AreValidRelations.calls _ _ t333 t346 _ ?side1 ?side2 A140.out).mono ?_); (case side1 => repeat (first | exact (Kd.Q_reads' HO335.out).2.2 | (with_reducible refine Kd.C_alloc ?_ _) | (with_reducible refine Kd.C_drewN ?_ _) | (with_reducible refine Kd.C_drew ?_))); (case side2 => exact (Kd.Q_reads' HO335.out).2.1); rintro e w148 ⟨rfl, hb⟩; have n0_ := aM (Kd.Q_below (by (with_reducible repeat (first | apply Kd.Q_alloc | apply Kd.Q_drewN | apply Kd.Q_drew)); exact HO335.out) hb); have n1_ := aM (blk_below (g := gb315) (o := .cells #[.string t312, .int .i64 t313, .int .i64 t314] 28 (0, 0)) aK hb); have n2_ := aM (blk_below (g := gb321) (o := .cells #[.string t317, .int .i64 t318, .int .i64 t319] 28 (0, 0)) aK hb); have n3_ := aM (blk_below (g := gb327) (o := .cells #[.string t323, .int .i64 t324, .int .i64 t325] 28 (0, 0)) aK hb); have n4_ := aM (blk_below (g := gb332) (o := .cells #[.string t328, .int .i64 t329, .int .i64 t330] 28 (0, 0)) aK hb); have n5_ := aM (below_step aG hb); clear HO335; clear BK315; clear BK321; clear BK327; clear BK332; clear HB; have HO335 := n0_; have BK315 := n1_; have BK321 := n2_; have BK327 := n3_; have BK332 := n4_; have HB := n5_; clear n0_ n1_ n2_ n3_ n4_ n5_; (try clear hb); (try clear hb2); (try clear hk); (try clear hi)))
       go_meet
       case rel => exact ⟨_, ((t345 != t346)), (by first | rfl | (simp; done) | (simp [*]; done)), H', ⟨by first | omega | exact Nat.le_refl _⟩, ⟨by (with_reducible repeat (first | apply Kd.Q_alloc | apply Kd.Q_drewN | apply Kd.Q_drew)); exact Kd.Q_mono HO335.out (fun _ hk => ⟨hk.1.1.1.2, ⟨hk.1.1.2, ⟨hk.1.2, hk.2⟩⟩⟩)⟩, ⟨by (with_reducible repeat (first | refine blk_drewN ?_ _ | refine blk_drew ?_ | refine blk_alloc ?_ _)); exact BK315.out⟩, ⟨by (with_reducible repeat (first | refine blk_drewN ?_ _ | refine blk_drew ?_ | refine blk_alloc ?_ _)); exact BK321.out⟩, ⟨by (with_reducible repeat (first | refine blk_drewN ?_ _ | refine blk_drew ?_ | refine blk_alloc ?_ _)); exact BK327.out⟩, ⟨by (with_reducible repeat (first | refine blk_drewN ?_ _ | refine blk_drew ?_ | refine blk_alloc ?_ _)); exact BK332.out⟩, ⟨by repeat (first | (with_reducible first | exact HB.out | apply below_alloc | apply pw_below_drewN | apply below_drew1 | refine below_set ?_ GE315.out | refine below_set ?_ GE321.out | refine below_set ?_ GE327.out | refine below_set ?_ GE332.out) | exact HB.out)⟩⟩
  case rest =>
   clear HC11
   try clear c1
   try clear c2
   try clear p2
   try clear c3
   try clear c4
   try clear c5
   try clear c6
   try clear c7
   try clear c8
   try clear c9
   try clear c10
   try clear c11
   try clear c12
   try clear c13
   try clear c14
   try clear c16
   try clear c17
   try clear c18
   try clear c20
   try clear c21
   try clear c22
   try clear c23
   try clear c24
   try clear c28
   try clear c29
   try clear c30
   try clear c34
   try clear c34b0
   try clear c34b1
   try clear c34b2
   try clear c35
   try clear c36
   try clear c37
   try clear c40
   try clear c41
   try clear c41b0
   try clear c42
   try clear c43
   try clear c44
   try clear c47
   try clear c48
   try clear c51
   try clear c51b0
   try clear c51b1
   try clear c51b2
   try clear c52
   try clear c53
   try clear c54
   try clear c57
   try clear c58
   try clear c61
   try clear c63
   try clear c63b0
   try clear c63b1
   try clear c66
   try clear c67
   try clear c68
   try clear c71
   try clear c72
   try clear c75
   try clear c81
   try clear c82
   try clear c83
   try clear c86
   try clear c87
   try clear c90
   try clear c95
   try clear c96
   try clear c97
   try clear c100
   try clear c101
   try clear c107
   try clear c107b0
   try clear c107b1
   try clear c107b2
   try clear c108
   try clear c109
   try clear c110
   try clear c113
   try clear c115
   try clear c115b0
   try clear c115b1
   try clear c118
   try clear c119
   try clear c120
   try clear c123
   try clear c124
   try clear c130
   try clear c131
   try clear c132
   try clear c135
   try clear c136
   try clear c141
   try clear c142
   try clear c143
   try clear hcz102_0
   try clear hcz102_1
   try clear hcz102_2
   try clear hcz103_0
   try clear hcz103_1
   try clear hcz103_2
   try clear hcz111_0
   try clear hcz111_1
   try clear hcz111_2
   try clear hcz121_0
   try clear hcz121_1
   try clear hcz121_2
   try clear hcz125_0
   try clear hcz125_1
   try clear hcz125_2
   try clear hcz133_0
   try clear hcz133_1
   try clear hcz133_2
   try clear hcz137_0
   try clear hcz137_1
   try clear hcz137_2
   try clear hcz144_0
   try clear hcz144_1
   try clear hcz144_2
   try clear hcz14_0
   try clear hcz14_1
   try clear hcz14_2
   try clear hcz19_0
   try clear hcz19_1
   try clear hcz19_2
   try clear hcz25_0
   try clear hcz25_1
   try clear hcz25_2
   try clear hcz31_0
   try clear hcz31_1
   try clear hcz31_2
   try clear hcz38_0
   try clear hcz38_1
   try clear hcz38_2
   try clear hcz45_0
   try clear hcz45_1
   try clear hcz45_2
   try clear hcz49_0
   try clear hcz49_1
   try clear hcz49_2
   try clear hcz50_0
   try clear hcz50_1
   try clear hcz50_2
   try clear hcz55_0
   try clear hcz55_1
   try clear hcz55_2
   try clear hcz59_0
   try clear hcz59_1
   try clear hcz59_2
   try clear hcz60_0
   try clear hcz60_1
   try clear hcz60_2
   try clear hcz69_0
   try clear hcz69_1
   try clear hcz69_2
   try clear hcz73_0
   try clear hcz73_1
   try clear hcz73_2
   try clear hcz74_0
   try clear hcz74_1
   try clear hcz74_2
   try clear hcz76_0
   try clear hcz76_1
   try clear hcz76_2
   try clear hcz84_0
   try clear hcz84_1
   try clear hcz84_2
   try clear hcz88_0
   try clear hcz88_1
   try clear hcz88_2
   try clear hcz89_0
   try clear hcz89_1
   try clear hcz89_2
   try clear hcz91_0
   try clear hcz91_1
   try clear hcz91_2
   try clear hcz98_0
   try clear hcz98_1
   try clear hcz98_2
   try clear hfz102_0
   try clear hfz102_1
   try clear hfz102_2
   try clear hfz103_0
   try clear hfz103_1
   try clear hfz103_2
   try clear hfz111_0
   try clear hfz111_1
   try clear hfz111_2
   try clear hfz121_0
   try clear hfz121_1
   try clear hfz121_2
   try clear hfz125_0
   try clear hfz125_1
   try clear hfz125_2
   try clear hfz133_0
   try clear hfz133_1
   try clear hfz133_2
   try clear hfz137_0
   try clear hfz137_1
   try clear hfz137_2
   try clear hfz144_0
   try clear hfz144_1
   try clear hfz144_2
   try clear hfz14_0
   try clear hfz14_1
   try clear hfz14_2
   try clear hfz19_0
   try clear hfz19_1
   try clear hfz19_2
   try clear hfz25_0
   try clear hfz25_1
   try clear hfz25_2
   try clear hfz31_0
   try clear hfz31_1
   try clear hfz31_2
   try clear hfz38_0
   try clear hfz38_1
   try clear hfz38_2
   try clear hfz45_0
   try clear hfz45_1
   try clear hfz45_2
   try clear hfz49_0
   try clear hfz49_1
   try clear hfz49_2
   try clear hfz50_0
   try clear hfz50_1
   try clear hfz50_2
   try clear hfz55_0
   try clear hfz55_1
   try clear hfz55_2
   try clear hfz59_0
   try clear hfz59_1
   try clear hfz59_2
   try clear hfz60_0
   try clear hfz60_1
   try clear hfz60_2
   try clear hfz69_0
   try clear hfz69_1
   try clear hfz69_2
   try clear hfz73_0
   try clear hfz73_1
   try clear hfz73_2
   try clear hfz74_0
   try clear hfz74_1
   try clear hfz74_2
   try clear hfz76_0
   try clear hfz76_1
   try clear hfz76_2
   try clear hfz84_0
   try clear hfz84_1
   try clear hfz84_2
   try clear hfz88_0
   try clear hfz88_1
   try clear hfz88_2
   try clear hfz89_0
   try clear hfz89_1
   try clear hfz89_2
   try clear hfz91_0
   try clear hfz91_1
   try clear hfz91_2
   try clear hfz98_0
   try clear hfz98_1
   try clear hfz98_2
   obtain ⟨kq, x69_10, rfl, HA, HJ10, HO_11, BK315, BK321, BK327, BK332, HB⟩ := hcut
   cases kq with
   | zero => exact absurd HA.out (by simp [laws_FnRelationFormat.j0])
   | succ kj10 =>
    have H := HA.out
    clear HA
    simp only [laws_FnRelationFormat.j0] at H
    by_cases c149 : x69_10 = true
    ·subst c149
     have H1 : (some false) = some r := by rw [if_pos rfl] at H; exact H
     clear H
     have H := H1
     clear H1
     exact absurd (Option.some.inj (H.trans (congrArg some HRT_.out))) (by decide)
    ·replace c149 := Bool.eq_false_iff.mpr c149
     subst c149
     have H1 : (laws_FnRelationFormat.l0 kj10 t333 0) = some r := by rw [if_neg (show ¬ (false = true) by decide)] at H; exact H
     clear H
     have H := H1
     clear H1
     have H' := aM H
     clear H
     go_wp2
     go_loopg [12] kj10 (fun kq v12 w' => ∃ (x12_2 : Int), v12 = .int .i64 x12_2 ∧ Aside0 (laws_FnRelationFormat.l0 kq t333 x12_2 = some r) ∧ Aside0 (kq ≤ kj10) ∧ Aside0 (Kd.Q k28 28 w' w.heap.size (fun k_ => k_ ≠ gb315 ∧ k_ ≠ gb321 ∧ k_ ≠ gb327 ∧ k_ ≠ gb332) v334 t333) ∧ Aside0 (w'.heap[gb315]? = some (.cells #[.string t312, .int .i64 t313, .int .i64 t314] 28 (0, 0))) ∧ Aside0 (w'.heap[gb321]? = some (.cells #[.string t317, .int .i64 t318, .int .i64 t319] 28 (0, 0))) ∧ Aside0 (w'.heap[gb327]? = some (.cells #[.string t323, .int .i64 t324, .int .i64 t325] 28 (0, 0))) ∧ Aside0 (w'.heap[gb332]? = some (.cells #[.string t328, .int .i64 t329, .int .i64 t330] 28 (0, 0))) ∧ Aside0 (Below w.heap.size w w'))
     case atStart => exact ⟨(0), (by first | rfl | (simp; done) | (simp [*]; done)), H', ⟨Nat.le_refl _⟩, ⟨by (with_reducible repeat (first | apply Kd.Q_alloc | apply Kd.Q_drewN | apply Kd.Q_drew)); exact HO_11.out⟩, ⟨by (with_reducible repeat (first | refine blk_drewN ?_ _ | refine blk_drew ?_ | refine blk_alloc ?_ _)); exact BK315.out⟩, ⟨by (with_reducible repeat (first | refine blk_drewN ?_ _ | refine blk_drew ?_ | refine blk_alloc ?_ _)); exact BK321.out⟩, ⟨by (with_reducible repeat (first | refine blk_drewN ?_ _ | refine blk_drew ?_ | refine blk_alloc ?_ _)); exact BK327.out⟩, ⟨by (with_reducible repeat (first | refine blk_drewN ?_ _ | refine blk_drew ?_ | refine blk_alloc ?_ _)); exact BK332.out⟩, ⟨by repeat (first | (with_reducible first | exact HB.out | apply below_alloc | apply pw_below_drewN | apply below_drew1 | refine below_set ?_ GE315.out | refine below_set ?_ GE321.out | refine below_set ?_ GE327.out | refine below_set ?_ GE332.out) | exact HB.out)⟩⟩
     case round =>
      clear H'
      try clear c1
      try clear c2
      try clear p2
      try clear c3
      try clear c4
      try clear c5
      try clear c6
      try clear c7
      try clear c8
      try clear c9
      try clear c10
      try clear c11
      try clear c12
      try clear c13
      try clear c14
      try clear c16
      try clear c17
      try clear c18
      try clear c20
      try clear c21
      try clear c22
      try clear c23
      try clear c24
      try clear c28
      try clear c29
      try clear c30
      try clear c34
      try clear c34b0
      try clear c34b1
      try clear c34b2
      try clear c35
      try clear c36
      try clear c37
      try clear c40
      try clear c41
      try clear c41b0
      try clear c42
      try clear c43
      try clear c44
      try clear c47
      try clear c48
      try clear c51
      try clear c51b0
      try clear c51b1
      try clear c51b2
      try clear c52
      try clear c53
      try clear c54
      try clear c57
      try clear c58
      try clear c61
      try clear c63
      try clear c63b0
      try clear c63b1
      try clear c66
      try clear c67
      try clear c68
      try clear c71
      try clear c72
      try clear c75
      try clear c81
      try clear c82
      try clear c83
      try clear c86
      try clear c87
      try clear c90
      try clear c95
      try clear c96
      try clear c97
      try clear c100
      try clear c101
      try clear c107
      try clear c107b0
      try clear c107b1
      try clear c107b2
      try clear c108
      try clear c109
      try clear c110
      try clear c113
      try clear c115
      try clear c115b0
      try clear c115b1
      try clear c118
      try clear c119
      try clear c120
      try clear c123
      try clear c124
      try clear c130
      try clear c131
      try clear c132
      try clear c135
      try clear c136
      try clear c141
      try clear c142
      try clear c143
      try clear c149
      try clear hcz102_0
      try clear hcz102_1
      try clear hcz102_2
      try clear hcz103_0
      try clear hcz103_1
      try clear hcz103_2
      try clear hcz111_0
      try clear hcz111_1
      try clear hcz111_2
      try clear hcz121_0
      try clear hcz121_1
      try clear hcz121_2
      try clear hcz125_0
      try clear hcz125_1
      try clear hcz125_2
      try clear hcz133_0
      try clear hcz133_1
      try clear hcz133_2
      try clear hcz137_0
      try clear hcz137_1
      try clear hcz137_2
      try clear hcz144_0
      try clear hcz144_1
      try clear hcz144_2
      try clear hcz14_0
      try clear hcz14_1
      try clear hcz14_2
      try clear hcz19_0
      try clear hcz19_1
      try clear hcz19_2
      try clear hcz25_0
      try clear hcz25_1
      try clear hcz25_2
      try clear hcz31_0
      try clear hcz31_1
      try clear hcz31_2
      try clear hcz38_0
      try clear hcz38_1
      try clear hcz38_2
      try clear hcz45_0
      try clear hcz45_1
      try clear hcz45_2
      try clear hcz49_0
      try clear hcz49_1
      try clear hcz49_2
      try clear hcz50_0
      try clear hcz50_1
      try clear hcz50_2
      try clear hcz55_0
      try clear hcz55_1
      try clear hcz55_2
      try clear hcz59_0
      try clear hcz59_1
      try clear hcz59_2
      try clear hcz60_0
      try clear hcz60_1
      try clear hcz60_2
      try clear hcz69_0
      try clear hcz69_1
      try clear hcz69_2
      try clear hcz73_0
      try clear hcz73_1
      try clear hcz73_2
      try clear hcz74_0
      try clear hcz74_1
      try clear hcz74_2
      try clear hcz76_0
      try clear hcz76_1
      try clear hcz76_2
      try clear hcz84_0
      try clear hcz84_1
      try clear hcz84_2
      try clear hcz88_0
      try clear hcz88_1
      try clear hcz88_2
      try clear hcz89_0
      try clear hcz89_1
      try clear hcz89_2
      try clear hcz91_0
      try clear hcz91_1
      try clear hcz91_2
      try clear hcz98_0
      try clear hcz98_1
      try clear hcz98_2
      try clear hfz102_0
      try clear hfz102_1
      try clear hfz102_2
      try clear hfz103_0
      try clear hfz103_1
      try clear hfz103_2
      try clear hfz111_0
      try clear hfz111_1
      try clear hfz111_2
      try clear hfz121_0
      try clear hfz121_1
      try clear hfz121_2
      try clear hfz125_0
      try clear hfz125_1
      try clear hfz125_2
      try clear hfz133_0
      try clear hfz133_1
      try clear hfz133_2
      try clear hfz137_0
      try clear hfz137_1
      try clear hfz137_2
      try clear hfz144_0
      try clear hfz144_1
      try clear hfz144_2
      try clear hfz14_0
      try clear hfz14_1
      try clear hfz14_2
      try clear hfz19_0
      try clear hfz19_1
      try clear hfz19_2
      try clear hfz25_0
      try clear hfz25_1
      try clear hfz25_2
      try clear hfz31_0
      try clear hfz31_1
      try clear hfz31_2
      try clear hfz38_0
      try clear hfz38_1
      try clear hfz38_2
      try clear hfz45_0
      try clear hfz45_1
      try clear hfz45_2
      try clear hfz49_0
      try clear hfz49_1
      try clear hfz49_2
      try clear hfz50_0
      try clear hfz50_1
      try clear hfz50_2
      try clear hfz55_0
      try clear hfz55_1
      try clear hfz55_2
      try clear hfz59_0
      try clear hfz59_1
      try clear hfz59_2
      try clear hfz60_0
      try clear hfz60_1
      try clear hfz60_2
      try clear hfz69_0
      try clear hfz69_1
      try clear hfz69_2
      try clear hfz73_0
      try clear hfz73_1
      try clear hfz73_2
      try clear hfz74_0
      try clear hfz74_1
      try clear hfz74_2
      try clear hfz76_0
      try clear hfz76_1
      try clear hfz76_2
      try clear hfz84_0
      try clear hfz84_1
      try clear hfz84_2
      try clear hfz88_0
      try clear hfz88_1
      try clear hfz88_2
      try clear hfz89_0
      try clear hfz89_1
      try clear hfz89_2
      try clear hfz91_0
      try clear hfz91_1
      try clear hfz91_2
      try clear hfz98_0
      try clear hfz98_1
      try clear hfz98_2
      try clear p2
      obtain ⟨x12_2, rfl, HA, HK2, HO_11, BK315, BK321, BK327, BK332, HB⟩ := hrel
      cases gk with
      | zero => exact absurd HA.out (by simp [laws_FnRelationFormat.l0])
      | succ k2 =>
       have H := HA.out
       clear HA
       simp only [laws_FnRelationFormat.l0] at H
       have HC150 := aM H
       clear H
       go_upto_region 12 with (fail)
       go_cut [77] (fun v77 wc => ∃ (kq : Nat) (x77_149 : Bool), v77 = .bool x77_149 ∧ Aside0 (laws_FnRelationFormat.j2 kq t333 x12_2 x77_149 = some r) ∧ Aside0 (kq ≤ k2) ∧ Aside0 (Kd.Q k28 28 wc w.heap.size (fun k_ => k_ ≠ gb315 ∧ k_ ≠ gb321 ∧ k_ ≠ gb327 ∧ k_ ≠ gb332) v334 t333) ∧ Aside0 (wc.heap[gb315]? = some (.cells #[.string t312, .int .i64 t313, .int .i64 t314] 28 (0, 0))) ∧ Aside0 (wc.heap[gb321]? = some (.cells #[.string t317, .int .i64 t318, .int .i64 t319] 28 (0, 0))) ∧ Aside0 (wc.heap[gb327]? = some (.cells #[.string t323, .int .i64 t324, .int .i64 t325] 28 (0, 0))) ∧ Aside0 (wc.heap[gb332]? = some (.cells #[.string t328, .int .i64 t329, .int .i64 t330] 28 (0, 0))) ∧ Aside0 (Below w.heap.size w wc))
       case first =>
        have H := HC150.out
        clear HC150
        by_cases c151 : x12_2 < (t333.length : Int)
        ·rw [if_pos c151] at H
         have c151b0 : decide (x12_2 < (t333.length : Int)) = true := decide_eq_true c151
         clear c151
         (first | rw [c151b0] | (simp only [i64_w, i32_w]; rw [c151b0]) | skip)
         replace H := Option.bind_eq_some_iff.mp H
         obtain ⟨t347, A1520, H⟩ := H
         replace H : (laws_FnRelationFormat.j2 k2 t333 x12_2 t347) = some r := H
         have A152 := aM A1520
         clear A1520
         have H' := aM H
         clear H
         obtain ⟨Ao153, co153, eo153, _⟩ := Kd.Q_slice HO_11.out
         subst eo153
         go_wp2_with (first | (go_at_call 26; (with_reducible refine (spec_AreValidRelations.calls _ _ t333 t347 _ ?side1 ?side2 A152.out).mono ?_); (case side1 => repeat (first | exact (Kd.Q_reads' HO_11.out).2.2 | (with_reducible refine Kd.C_alloc ?_ _) | (with_reducible refine Kd.C_drewN ?_ _) | (with_reducible refine Kd.C_drew ?_))); (case side2 => exact (Kd.Q_reads' HO_11.out).2.1); rintro e w154 ⟨rfl, hb⟩; have n0_ := aM (Kd.Q_below (by (with_reducible repeat (first | apply Kd.Q_alloc | apply Kd.Q_drewN | apply Kd.Q_drew)); exact HO_11.out) hb); have n1_ := aM (blk_below (g := gb315) (o := .cells #[.string t312, .int .i64 t313, .int .i64 t314] 28 (0, 0)) aK hb); have n2_ := aM (blk_below (g := gb321) (o := .cells #[.string t317, .int .i64 t318, .int .i64 t319] 28 (0, 0)) aK hb); have n3_ := aM (blk_below (g := gb327) (o := .cells #[.string t323, .int .i64 t324, .int .i64 t325] 28 (0, 0)) aK hb); have n4_ := aM (blk_below (g := gb332) (o := .cells #[.string t328, .int .i64 t329, .int .i64 t330] 28 (0, 0)) aK hb); have n5_ := aM (below_step aG hb); clear HO_11; clear BK315; clear BK321; clear BK327; clear BK332; clear HB; have HO_11 := n0_; have BK315 := n1_; have BK321 := n2_; have BK327 := n3_; have BK332 := n4_; have HB := n5_; clear n0_ n1_ n2_ n3_ n4_ n5_; (try clear hb); (try clear hb2); (try clear hk); (try clear hi)))
         go_meet
         case rel => exact ⟨_, (t347), (by first | rfl | (simp; done) | (simp [*]; done)), H', ⟨by have := HJ10.out; have := HK2.out; first | omega | exact Nat.le_refl _⟩, ⟨by (with_reducible repeat (first | apply Kd.Q_alloc | apply Kd.Q_drewN | apply Kd.Q_drew)); exact HO_11.out⟩, ⟨by (with_reducible repeat (first | refine blk_drewN ?_ _ | refine blk_drew ?_ | refine blk_alloc ?_ _)); exact BK315.out⟩, ⟨by (with_reducible repeat (first | refine blk_drewN ?_ _ | refine blk_drew ?_ | refine blk_alloc ?_ _)); exact BK321.out⟩, ⟨by (with_reducible repeat (first | refine blk_drewN ?_ _ | refine blk_drew ?_ | refine blk_alloc ?_ _)); exact BK327.out⟩, ⟨by (with_reducible repeat (first | refine blk_drewN ?_ _ | refine blk_drew ?_ | refine blk_alloc ?_ _)); exact BK332.out⟩, ⟨by repeat (first | (with_reducible first | exact HB.out | apply below_alloc | apply pw_below_drewN | apply below_drew1 | refine below_set ?_ GE315.out | refine below_set ?_ GE321.out | refine below_set ?_ GE327.out | refine below_set ?_ GE332.out) | exact HB.out)⟩⟩
        ·rw [if_neg c151] at H
         have c151b0 : decide (x12_2 < (t333.length : Int)) = false := decide_eq_false c151
         clear c151
         (first | rw [c151b0] | (simp only [i64_w, i32_w]; rw [c151b0]) | skip)
         have H' := aM H
         clear H
         obtain ⟨Ao155, co155, eo155, _⟩ := Kd.Q_slice HO_11.out
         subst eo155
         go_wp2
         go_meet
         case rel => exact ⟨_, (false), (by first | rfl | (simp; done) | (simp [*]; done)), H', ⟨by have := HJ10.out; have := HK2.out; first | omega | exact Nat.le_refl _⟩, ⟨by (with_reducible repeat (first | apply Kd.Q_alloc | apply Kd.Q_drewN | apply Kd.Q_drew)); exact HO_11.out⟩, ⟨by (with_reducible repeat (first | refine blk_drewN ?_ _ | refine blk_drew ?_ | refine blk_alloc ?_ _)); exact BK315.out⟩, ⟨by (with_reducible repeat (first | refine blk_drewN ?_ _ | refine blk_drew ?_ | refine blk_alloc ?_ _)); exact BK321.out⟩, ⟨by (with_reducible repeat (first | refine blk_drewN ?_ _ | refine blk_drew ?_ | refine blk_alloc ?_ _)); exact BK327.out⟩, ⟨by (with_reducible repeat (first | refine blk_drewN ?_ _ | refine blk_drew ?_ | refine blk_alloc ?_ _)); exact BK332.out⟩, ⟨by repeat (first | (with_reducible first | exact HB.out | apply below_alloc | apply pw_below_drewN | apply below_drew1 | refine below_set ?_ GE315.out | refine below_set ?_ GE321.out | refine below_set ?_ GE327.out | refine below_set ?_ GE332.out) | exact HB.out)⟩⟩
       case rest =>
        clear HC150
        try clear c1
        try clear c2
        try clear p2
        try clear c3
        try clear c4
        try clear c5
        try clear c6
        try clear c7
        try clear c8
        try clear c9
        try clear c10
        try clear c11
        try clear c12
        try clear c13
        try clear c14
        try clear c15
        try clear c16
        try clear c17
        try clear c18
        try clear c20
        try clear c21
        try clear c22
        try clear c23
        try clear c24
        try clear c28
        try clear c29
        try clear c30
        try clear c34
        try clear c34b0
        try clear c34b1
        try clear c34b2
        try clear c35
        try clear c36
        try clear c37
        try clear c40
        try clear c41
        try clear c41b0
        try clear c42
        try clear c43
        try clear c44
        try clear c47
        try clear c48
        try clear c51
        try clear c51b0
        try clear c51b1
        try clear c51b2
        try clear c52
        try clear c53
        try clear c54
        try clear c57
        try clear c58
        try clear c61
        try clear c63
        try clear c63b0
        try clear c63b1
        try clear c66
        try clear c67
        try clear c68
        try clear c71
        try clear c72
        try clear c75
        try clear c81
        try clear c82
        try clear c83
        try clear c86
        try clear c87
        try clear c90
        try clear c95
        try clear c96
        try clear c97
        try clear c100
        try clear c101
        try clear c107
        try clear c107b0
        try clear c107b1
        try clear c107b2
        try clear c108
        try clear c109
        try clear c110
        try clear c113
        try clear c115
        try clear c115b0
        try clear c115b1
        try clear c118
        try clear c119
        try clear c120
        try clear c123
        try clear c124
        try clear c130
        try clear c131
        try clear c132
        try clear c135
        try clear c136
        try clear c141
        try clear c142
        try clear c143
        try clear c149
        try clear c151
        try clear c151b0
        try clear hcz102_0
        try clear hcz102_1
        try clear hcz102_2
        try clear hcz103_0
        try clear hcz103_1
        try clear hcz103_2
        try clear hcz111_0
        try clear hcz111_1
        try clear hcz111_2
        try clear hcz121_0
        try clear hcz121_1
        try clear hcz121_2
        try clear hcz125_0
        try clear hcz125_1
        try clear hcz125_2
        try clear hcz133_0
        try clear hcz133_1
        try clear hcz133_2
        try clear hcz137_0
        try clear hcz137_1
        try clear hcz137_2
        try clear hcz144_0
        try clear hcz144_1
        try clear hcz144_2
        try clear hcz14_0
        try clear hcz14_1
        try clear hcz14_2
        try clear hcz19_0
        try clear hcz19_1
        try clear hcz19_2
        try clear hcz25_0
        try clear hcz25_1
        try clear hcz25_2
        try clear hcz31_0
        try clear hcz31_1
        try clear hcz31_2
        try clear hcz38_0
        try clear hcz38_1
        try clear hcz38_2
        try clear hcz45_0
        try clear hcz45_1
        try clear hcz45_2
        try clear hcz49_0
        try clear hcz49_1
        try clear hcz49_2
        try clear hcz50_0
        try clear hcz50_1
        try clear hcz50_2
        try clear hcz55_0
        try clear hcz55_1
        try clear hcz55_2
        try clear hcz59_0
        try clear hcz59_1
        try clear hcz59_2
        try clear hcz60_0
        try clear hcz60_1
        try clear hcz60_2
        try clear hcz69_0
        try clear hcz69_1
        try clear hcz69_2
        try clear hcz73_0
        try clear hcz73_1
        try clear hcz73_2
        try clear hcz74_0
        try clear hcz74_1
        try clear hcz74_2
        try clear hcz76_0
        try clear hcz76_1
        try clear hcz76_2
        try clear hcz84_0
        try clear hcz84_1
        try clear hcz84_2
        try clear hcz88_0
        try clear hcz88_1
        try clear hcz88_2
        try clear hcz89_0
        try clear hcz89_1
        try clear hcz89_2
        try clear hcz91_0
        try clear hcz91_1
        try clear hcz91_2
        try clear hcz98_0
        try clear hcz98_1
        try clear hcz98_2
        try clear hfz102_0
        try clear hfz102_1
        try clear hfz102_2
        try clear hfz103_0
        try clear hfz103_1
        try clear hfz103_2
        try clear hfz111_0
        try clear hfz111_1
        try clear hfz111_2
        try clear hfz121_0
        try clear hfz121_1
        try clear hfz121_2
        try clear hfz125_0
        try clear hfz125_1
        try clear hfz125_2
        try clear hfz133_0
        try clear hfz133_1
        try clear hfz133_2
        try clear hfz137_0
        try clear hfz137_1
        try clear hfz137_2
        try clear hfz144_0
        try clear hfz144_1
        try clear hfz144_2
        try clear hfz14_0
        try clear hfz14_1
        try clear hfz14_2
        try clear hfz19_0
        try clear hfz19_1
        try clear hfz19_2
        try clear hfz25_0
        try clear hfz25_1
        try clear hfz25_2
        try clear hfz31_0
        try clear hfz31_1
        try clear hfz31_2
        try clear hfz38_0
        try clear hfz38_1
        try clear hfz38_2
        try clear hfz45_0
        try clear hfz45_1
        try clear hfz45_2
        try clear hfz49_0
        try clear hfz49_1
        try clear hfz49_2
        try clear hfz50_0
        try clear hfz50_1
        try clear hfz50_2
        try clear hfz55_0
        try clear hfz55_1
        try clear hfz55_2
        try clear hfz59_0
        try clear hfz59_1
        try clear hfz59_2
        try clear hfz60_0
        try clear hfz60_1
        try clear hfz60_2
        try clear hfz69_0
        try clear hfz69_1
        try clear hfz69_2
        try clear hfz73_0
        try clear hfz73_1
        try clear hfz73_2
        try clear hfz74_0
        try clear hfz74_1
        try clear hfz74_2
        try clear hfz76_0
        try clear hfz76_1
        try clear hfz76_2
        try clear hfz84_0
        try clear hfz84_1
        try clear hfz84_2
        try clear hfz88_0
        try clear hfz88_1
        try clear hfz88_2
        try clear hfz89_0
        try clear hfz89_1
        try clear hfz89_2
        try clear hfz91_0
        try clear hfz91_1
        try clear hfz91_2
        try clear hfz98_0
        try clear hfz98_1
        try clear hfz98_2
        try clear p2
        obtain ⟨kq, x77_149, rfl, HA, HJ149, HO_11, BK315, BK321, BK327, BK332, HB⟩ := hcut
        cases kq with
        | zero => exact absurd HA.out (by simp [laws_FnRelationFormat.j2])
        | succ kj149 =>
         have H := HA.out
         clear HA
         simp only [laws_FnRelationFormat.j2] at H
         by_cases c156 : x77_149 = true
         ·subst c156
          have H1 : (if 0 ≤ x12_2 then (if x12_2 < (t333.length : Int) then ((impl_RelationIndex.f t333 ((rd_T28 t333 x12_2).f0)).bind fun t349 => (if t349 = x12_2 then (laws_FnRelationFormat.l0 kj149 t333 (wrap64 (x12_2 + 1))) else (some false))) else (none)) else (none)) = some r := by rw [if_pos rfl] at H; exact H
          clear H
          have H := H1
          clear H1
          by_cases c157 : 0 ≤ x12_2
          ·rw [if_pos c157] at H
           have c157b0 : decide (0 ≤ x12_2) = true := decide_eq_true c157
           clear c157
           by_cases c158 : x12_2 < (t333.length : Int)
           ·rw [if_pos c158] at H
            have c158b0 : decide (x12_2 < (t333.length : Int)) = true := decide_eq_true c158
            clear c158
            replace H := Option.bind_eq_some_iff.mp H
            obtain ⟨t349, A1590, H⟩ := H
            replace H : (if t349 = x12_2 then (laws_FnRelationFormat.l0 kj149 t333 (wrap64 (x12_2 + 1))) else (some false)) = some r := H
            have A159 := aM A1590
            clear A1590
            by_cases c160 : t349 = x12_2
            ·rw [if_pos c160] at H
             have c160b0 : (t349 == x12_2) = true := beq_iff_eq.mpr c160
             have c160b1 : (t349 != x12_2) = false := bne_eq_false_iff_eq.mpr c160
             clear c160
             have H' := aM H
             clear H
             obtain ⟨Ao161, co161, eo161, _⟩ := Kd.Q_slice HO_11.out
             subst eo161
             have p348 : 0 ≤ (x12_2 : Int) := aD
             have q348 : x12_2 < (t333.length : Int) := aD
             obtain ⟨ad348, e348, hx348_0, hx348_1, hx348_2⟩ := at_T28 (Kd.Q_reads' HO_11.out).2.2 x12_2 p348 q348
             cases e348
             replace p348 := eq_true p348
             replace q348 := eq_true q348
             go_wp2_with (first | ((with_reducible refine gate_callee (f := 27) rfl ?_); refine goesL_ (some 86) rfl rfl Tryd.func27 (by kernel_rfl) rfl #[.slice (some ad348) t333.length co161, .string ((rd_T28 t333 x12_2).f0)] rfl (by (try simp only [List.map_toArray, List.map_cons, List.map_nil]); first | done | rfl | (simp only [List.length_drop, List.length_take]; rfl)) ?_; (with_reducible refine (impl_RelationIndex.calls _ _ t333 ((rd_T28 t333 x12_2).f0) t349 _ ?side1 ?side2 A159.out).mono ?_); (case side1 => repeat (first | exact (Kd.Q_reads' HO_11.out).2.2 | (with_reducible refine Kd.C_alloc ?_ _) | (with_reducible refine Kd.C_drewN ?_ _) | (with_reducible refine Kd.C_drew ?_))); (case side2 => exact (Kd.Q_reads' HO_11.out).2.1); rintro e w162 ⟨rfl, hb⟩; refine ⟨_, rfl, ?_⟩; have n0_ := aM (Kd.Q_below (by (with_reducible repeat (first | apply Kd.Q_alloc | apply Kd.Q_drewN | apply Kd.Q_drew)); exact HO_11.out) hb); have n1_ := aM (blk_below (g := gb315) (o := .cells #[.string t312, .int .i64 t313, .int .i64 t314] 28 (0, 0)) aK hb); have n2_ := aM (blk_below (g := gb321) (o := .cells #[.string t317, .int .i64 t318, .int .i64 t319] 28 (0, 0)) aK hb); have n3_ := aM (blk_below (g := gb327) (o := .cells #[.string t323, .int .i64 t324, .int .i64 t325] 28 (0, 0)) aK hb); have n4_ := aM (blk_below (g := gb332) (o := .cells #[.string t328, .int .i64 t329, .int .i64 t330] 28 (0, 0)) aK hb); have n5_ := aM (below_step aG hb); clear HO_11; clear BK315; clear BK321; clear BK327; clear BK332; clear HB; have HO_11 := n0_; have BK315 := n1_; have BK321 := n2_; have BK327 := n3_; have BK332 := n4_; have HB := n5_; clear n0_ n1_ n2_ n3_ n4_ n5_; (try clear hb); (try clear hb2); (try clear hk); (try clear hi)))
             go_roundg kj149
             case measure => have := HJ10.out; have := HK2.out; have := HJ149.out; omega
             case rel => exact ⟨(wrap64 (x12_2 + 1)), (by first | rfl | (simp; done) | (simp [*]; done)), H', ⟨by have := HJ10.out; have := HK2.out; have := HJ149.out; omega⟩, ⟨by (with_reducible repeat (first | apply Kd.Q_alloc | apply Kd.Q_drewN | apply Kd.Q_drew)); exact HO_11.out⟩, ⟨by (with_reducible repeat (first | refine blk_drewN ?_ _ | refine blk_drew ?_ | refine blk_alloc ?_ _)); exact BK315.out⟩, ⟨by (with_reducible repeat (first | refine blk_drewN ?_ _ | refine blk_drew ?_ | refine blk_alloc ?_ _)); exact BK321.out⟩, ⟨by (with_reducible repeat (first | refine blk_drewN ?_ _ | refine blk_drew ?_ | refine blk_alloc ?_ _)); exact BK327.out⟩, ⟨by (with_reducible repeat (first | refine blk_drewN ?_ _ | refine blk_drew ?_ | refine blk_alloc ?_ _)); exact BK332.out⟩, ⟨by repeat (first | (with_reducible first | exact HB.out | apply below_alloc | apply pw_below_drewN | apply below_drew1 | refine below_set ?_ GE315.out | refine below_set ?_ GE321.out | refine below_set ?_ GE327.out | refine below_set ?_ GE332.out) | exact HB.out)⟩⟩
            ·rw [if_neg c160] at H
             have c160b0 : (t349 == x12_2) = false := beq_eq_false_iff_ne.mpr c160
             have c160b1 : (t349 != x12_2) = true := bne_iff_ne.mpr c160
             exact absurd (Option.some.inj (H.trans (congrArg some HRT_.out))) (by decide)
           ·rw [if_neg c158] at H
            exact absurd H (by simp)
          ·rw [if_neg c157] at H
           exact absurd H (by simp)
         ·replace c156 := Bool.eq_false_iff.mpr c156
          subst c156
          have H1 : (some true) = some r := by rw [if_neg (show ¬ (false = true) by decide)] at H; exact H
          clear H
          have H := H1
          clear H1
          obtain rfl := Option.some.inj H
          go_wp2
          go_ret
          exact ⟨by first | rfl | (simp [errW_none, errW_some] <;> rfl) | (simp [*, errW_none, errW_some] <;> rfl), by repeat (first | (with_reducible first | exact HB.out | apply below_alloc | apply pw_below_drewN | apply below_drew1 | refine below_set ?_ GE315.out | refine below_set ?_ GE321.out | refine below_set ?_ GE327.out | refine below_set ?_ GE332.out) | exact HB.out)⟩

end Go.Proofs.YtdpaopfghggiaaaDoor.PFnRelationFormat
