/- The program's SumBetween and the reference's answer the same for all 64-bit numbers: no further condition. -/
import Derived.Test.YtachnbfdjhpjlaaM
import Derived.Test.YtachnbfdjhpjlaaPFnExactSumBetweenx1
namespace Go.Proofs.Ytachnbfdjhpjlaa.Pure
open Go.RowKit Go.Proofs.Ytachnbfdjhpjlaa.PFnExactSumBetween Go.Proofs.YtachnbfdjhpjlaaW.PrintWords Go.Proofs.YtachnbfdjhpjlaaW.PrintLast Go.Proofs.YtachnbfdjhpjlaaW.PrintMore
set_option linter.unusedVariables false
set_option linter.unusedSimpArgs false
theorem spec_l1In_eq (a b c : Int) : spec_l1In.f a b c = some (decide (b ≤ a ∧ a ≤ c)) := by
  unfold spec_l1In.f
  by_cases h : a ≥ b
  · rw [if_pos h]; simp [show b ≤ a from h]
  · rw [if_neg h]; simp [show ¬ b ≤ a from h]
theorem impl_within_eq (a b c : Int) : impl_within.f a b c = some (decide (b ≤ a ∧ a ≤ c)) := by
  unfold impl_within.f
  by_cases h : a ≥ b
  · rw [if_pos h]; simp [show b ≤ a from h]
  · rw [if_neg h]; simp [show ¬ b ≤ a from h]
theorem spec_nuMost_eq (a : Int) : spec_nuMost.f a = some (decide (1 ≤ a ∧ a ≤ 1000000)) := by
  unfold spec_nuMost.f; rw [spec_l1In_eq]; rfl
theorem impl_isMost_eq (a : Int) : impl_isMost.f a = some (decide (1 ≤ a ∧ a ≤ 1000000)) := by
  unfold impl_isMost.f; rw [impl_within_eq]; rfl
theorem same (a b : Int) : impl_SumBetween.f a b = spec_SumBetween.f a b := by
  unfold impl_SumBetween.f spec_SumBetween.f
  simp only [impl_isMost_eq, spec_nuMost_eq]
theorem total (a b : Int) : ∃ r, spec_SumBetween.f a b = some r := by
  unfold spec_SumBetween.f
  simp only [spec_nuMost_eq, Option.bind_some]
  repeat' split
  all_goals exact ⟨_, rfl⟩
theorem FnExactSumBetween : laws_FnExactSumBetween.Pure := by
  intro a b _ _
  obtain ⟨r, hr⟩ := total a b
  unfold laws_FnExactSumBetween.f
  rw [same, hr]
  simp

end Go.Proofs.Ytachnbfdjhpjlaa.Pure
