/- The law FnExactIsValidRelation answers true for every relation that the row admits: the two functions are one. -/
import Derived.Test.YtkdkibdigfglhaaGFnExactIsValidRelation
import Derived.Test.YtkdkibdigfglhaaBase
namespace Go.Proofs.Ytkdkibdigfglhaa.Pure
open Go.RowKit Go.Proofs.Ytkdkibdigfglhaa.PFnExactIsValidRelation Go.Proofs.YtkdkibdigfglhaaW.PrintWords Go.Proofs.YtkdkibdigfglhaaW.PrintLast Go.Proofs.YtkdkibdigfglhaaW.PrintMore Go.Proofs.Ytkdkibdigfglhaa.Base
set_option linter.unusedVariables false
set_option linter.unusedSimpArgs false

theorem FnExactIsValidRelation : FnExactIsValidRelationPure := by
  intro x hx
  have hn : x.f0.size ≤ 9223372036854775807 := hx.1
  unfold laws_FnExactIsValidRelation.f laws_szRelation.f
  rw [w64 (by omega) (by omega)]
  by_cases h : 1048576 - (x.f0.size : Int) < 0
  · rw [if_pos h]
    rfl
  · rw [if_neg h]
    simp only [Option.bind_some, laws_toRelation.f]
    rw [if_neg h]
    have e : ∀ n a b, spec_IsValidRelation.f n a b = impl_IsValidRelation.f n a b := fun n a b => rfl
    have hs : ∃ r, impl_IsValidRelation.f x.f0 x.f1 x.f2 = some r := by
      unfold impl_IsValidRelation.f impl_within.f
      by_cases h1 : (x.f0.size : Int) = 1
      · rw [if_pos h1, if_pos (by omega)]
        repeat' split
        all_goals first | exact ⟨_, rfl⟩ | (simp only [Option.bind_some]; (repeat' split) <;> exact ⟨_, rfl⟩)
      · rw [if_neg h1]
        exact ⟨_, rfl⟩
    obtain ⟨r, hr⟩ := hs
    rw [e, hr]
    simp

end Go.Proofs.Ytkdkibdigfglhaa.Pure
