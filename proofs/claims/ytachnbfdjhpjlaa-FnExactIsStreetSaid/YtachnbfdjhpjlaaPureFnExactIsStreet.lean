/- The program's IsStreet and the reference's answer the same for all pairs of 64-bit numbers: no further condition. -/
import Derived.Test.YtachnbfdjhpjlaaM
import Derived.Test.YtachnbfdjhpjlaaPFnExactIsStreetx1
namespace Go.Proofs.Ytachnbfdjhpjlaa.Pure
open Go.RowKit Go.Proofs.Ytachnbfdjhpjlaa.PFnExactIsStreet Go.Proofs.YtachnbfdjhpjlaaW.PrintWords Go.Proofs.YtachnbfdjhpjlaaW.PrintLast Go.Proofs.YtachnbfdjhpjlaaW.PrintMore
set_option linter.unusedVariables false
set_option linter.unusedSimpArgs false
theorem spec_l1In_eq (a b c : Int) : spec_l1In.f a b c = some (decide (b ≤ a ∧ a ≤ c)) := by
  unfold spec_l1In.f
  by_cases h : a ≥ b
  · rw [if_pos h]; simp [show b ≤ a from h]
  · rw [if_neg h]; simp [show ¬ b ≤ a from h]
theorem impl_within_eq (a b c : Int) : impl_within.f a b c = some (decide (b ≤ a ∧ a ≤ c)) := by
  unfold impl_within.f
  by_cases h : a ≥ b
  · rw [if_pos h]; simp [show b ≤ a from h]
  · rw [if_neg h]; simp [show ¬ b ≤ a from h]
theorem spec_nuGood_eq (k p : Int) : spec_nuGood.f k p = some (M.streetB k p) := by
  unfold spec_nuGood.f M.streetB
  simp only [spec_l1In_eq, Option.bind_some]
  by_cases h : 0 ≤ k ∧ k ≤ 2 <;> simp [h]
theorem impl_IsStreet_eq (k p : Int) : impl_IsStreet.f k p = some (M.streetB k p) := by
  unfold impl_IsStreet.f M.streetB
  simp only [impl_within_eq, Option.bind_some]
  by_cases h : 0 ≤ k ∧ k ≤ 2 <;> simp [h]
theorem toStreet_eq (n l : Int) : laws_toStreet.f n l = some (n, l) := rfl
def laws_FnExactIsStreet.Pure : Prop := ∀ (a0_0 a0_1 : Int), (Lit.int .i64 a0_0).wf = true → (Lit.int .i64 a0_1).wf = true → laws_FnExactIsStreet.f a0_0 a0_1 = some true
theorem FnExactIsStreet : laws_FnExactIsStreet.Pure := by
  intro a b _ _
  unfold laws_FnExactIsStreet.f spec_IsStreet.f
  simp only [toStreet_eq, Option.bind_some, spec_nuGood_eq, impl_IsStreet_eq]
  simp

end Go.Proofs.Ytachnbfdjhpjlaa.Pure
