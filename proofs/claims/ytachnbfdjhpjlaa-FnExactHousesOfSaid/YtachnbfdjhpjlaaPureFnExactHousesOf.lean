/- The program's HousesOf and the reference's answer the same for all pairs of 64-bit numbers: no further condition. -/
import Derived.Test.YtachnbfdjhpjlaaM
import Derived.Test.YtachnbfdjhpjlaaPFnExactHousesOfx1
namespace Go.Proofs.Ytachnbfdjhpjlaa.Pure
open Go.RowKit Go.Proofs.Ytachnbfdjhpjlaa.PFnExactHousesOf Go.Proofs.YtachnbfdjhpjlaaW.PrintWords Go.Proofs.YtachnbfdjhpjlaaW.PrintLast Go.Proofs.YtachnbfdjhpjlaaW.PrintMore
set_option linter.unusedVariables false
set_option linter.unusedSimpArgs false
theorem spec_l1In_eq (a b c : Int) : spec_l1In.f a b c = some (decide (b ≤ a ∧ a ≤ c)) := by
  unfold spec_l1In.f
  by_cases h : a ≥ b
  · rw [if_pos h]; simp [show b ≤ a from h]
  · rw [if_neg h]; simp [show ¬ b ≤ a from h]
theorem impl_within_eq (a b c : Int) : impl_within.f a b c = some (decide (b ≤ a ∧ a ≤ c)) := by
  unfold impl_within.f
  by_cases h : a ≥ b
  · rw [if_pos h]; simp [show b ≤ a from h]
  · rw [if_neg h]; simp [show ¬ b ≤ a from h]
theorem spec_nuGood_eq (k p : Int) : spec_nuGood.f k p = some (M.streetB k p) := by
  unfold spec_nuGood.f M.streetB
  simp only [spec_l1In_eq, Option.bind_some]
  by_cases h : 0 ≤ k ∧ k ≤ 2 <;> simp [h]
theorem impl_IsStreet_eq (k p : Int) : impl_IsStreet.f k p = some (M.streetB k p) := by
  unfold impl_IsStreet.f M.streetB
  simp only [impl_within_eq, Option.bind_some]
  by_cases h : 0 ≤ k ∧ k ≤ 2 <;> simp [h]
theorem spec_nuHouses_eq {k p : Int} (h : M.streetB k p = true) : spec_nuHouses.f k p = some (M.houses k p) := by
  have h' := M.streetB_iff.1 h
  unfold spec_nuHouses.f M.houses
  rw [M.w64 (by omega) (by omega)]
  split <;> rfl
theorem impl_housesOf_eq {k p : Int} (h : M.streetB k p = true) : impl_housesOf.f k p = some (M.houses k p) := by
  have h' := M.streetB_iff.1 h
  unfold impl_housesOf.f M.houses
  rw [M.w64 (by omega) (by omega)]
  split <;> rfl
theorem toStreet_eq (n l : Int) : laws_toStreet.f n l = some (n, l) := rfl
theorem spec_HousesOf_eq (k p : Int) : spec_HousesOf.f k p = some (if M.streetB k p = true then (M.houses k p, true) else (0, false)) := by
  unfold spec_HousesOf.f
  simp only [spec_nuGood_eq, Option.bind_some]
  by_cases h : M.streetB k p = true
  · rw [if_pos h, if_pos h, spec_nuHouses_eq h]; rfl
  · rw [if_neg h, if_neg h]
theorem impl_HousesOf_eq (k p : Int) : impl_HousesOf.f k p = some (if M.streetB k p = true then (M.houses k p, true) else (0, false)) := by
  unfold impl_HousesOf.f
  simp only [impl_IsStreet_eq, Option.bind_some]
  by_cases h : M.streetB k p = true
  · rw [if_pos h, if_pos h, impl_housesOf_eq h]; rfl
  · rw [if_neg h, if_neg h]
def laws_FnExactHousesOf.Pure : Prop := ∀ (a0_0 a0_1 : Int), (Lit.int .i64 a0_0).wf = true → (Lit.int .i64 a0_1).wf = true → laws_FnExactHousesOf.f a0_0 a0_1 = some true
theorem FnExactHousesOf : laws_FnExactHousesOf.Pure := by
  intro a b _ _
  unfold laws_FnExactHousesOf.f
  simp only [toStreet_eq, Option.bind_some, spec_HousesOf_eq, impl_HousesOf_eq]
  simp

end Go.Proofs.Ytachnbfdjhpjlaa.Pure
