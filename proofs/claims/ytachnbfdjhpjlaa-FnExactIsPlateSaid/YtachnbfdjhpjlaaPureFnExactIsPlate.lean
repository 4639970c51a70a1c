/- The program's IsPlate and the reference's answer the same for all pairs of 64-bit numbers: no further condition. -/
import Derived.Test.YtachnbfdjhpjlaaM
import Derived.Test.YtachnbfdjhpjlaaPFnExactIsPlatex1
namespace Go.Proofs.Ytachnbfdjhpjlaa.Pure
open Go.RowKit Go.Proofs.Ytachnbfdjhpjlaa.PFnExactIsPlate Go.Proofs.YtachnbfdjhpjlaaW.PrintWords Go.Proofs.YtachnbfdjhpjlaaW.PrintLast Go.Proofs.YtachnbfdjhpjlaaW.PrintMore
set_option linter.unusedVariables false
set_option linter.unusedSimpArgs false
theorem spec_l1In_eq (a b c : Int) : spec_l1In.f a b c = some (decide (b ≤ a ∧ a ≤ c)) := by
  unfold spec_l1In.f
  by_cases h : a ≥ b
  · rw [if_pos h]; simp [show b ≤ a from h]
  · rw [if_neg h]; simp [show ¬ b ≤ a from h]
theorem impl_within_eq (a b c : Int) : impl_within.f a b c = some (decide (b ≤ a ∧ a ≤ c)) := by
  unfold impl_within.f
  by_cases h : a ≥ b
  · rw [if_pos h]; simp [show b ≤ a from h]
  · rw [if_neg h]; simp [show ¬ b ≤ a from h]
theorem spec_isPlate_eq (n l : Int) : spec_isPlate.f n l = some (M.plateB n l) := by
  unfold spec_isPlate.f M.plateB
  simp only [spec_l1In_eq, Option.bind_some]
  by_cases h : 1 ≤ n ∧ n ≤ 9999 <;> simp [h]
theorem impl_IsPlate_eq (n l : Int) : impl_IsPlate.f n l = some (M.plateB n l) := by
  unfold impl_IsPlate.f M.plateB
  simp only [impl_within_eq, Option.bind_some]
  by_cases h : 1 ≤ n ∧ n ≤ 9999 <;> simp [h]
theorem toPlate_eq (n l : Int) : laws_toPlate.f n l = some (n, l) := rfl
def laws_FnExactIsPlate.Pure : Prop := ∀ (a0_0 a0_1 : Int), (Lit.int .i64 a0_0).wf = true → (Lit.int .i64 a0_1).wf = true → laws_FnExactIsPlate.f a0_0 a0_1 = some true
theorem FnExactIsPlate : laws_FnExactIsPlate.Pure := by
  intro a b _ _
  unfold laws_FnExactIsPlate.f spec_IsPlate.f
  simp only [toPlate_eq, Option.bind_some, spec_isPlate_eq, impl_IsPlate_eq]
  simp

end Go.Proofs.Ytachnbfdjhpjlaa.Pure
