/- The program's NumberAt and the reference's answer the same for all 64-bit numbers: no further condition. -/
import Derived.Test.YtachnbfdjhpjlaaM
import Derived.Test.YtachnbfdjhpjlaaPFnExactNumberAtx1
namespace Go.Proofs.Ytachnbfdjhpjlaa.Pure
open Go.RowKit Go.Proofs.Ytachnbfdjhpjlaa.PFnExactNumberAt Go.Proofs.YtachnbfdjhpjlaaW.PrintWords Go.Proofs.YtachnbfdjhpjlaaW.PrintLast Go.Proofs.YtachnbfdjhpjlaaW.PrintMore
set_option linter.unusedVariables false
set_option linter.unusedSimpArgs false
theorem spec_l1In_eq (a b c : Int) : spec_l1In.f a b c = some (decide (b ≤ a ∧ a ≤ c)) := by
  unfold spec_l1In.f
  by_cases h : a ≥ b
  · rw [if_pos h]; simp [show b ≤ a from h]
  · rw [if_neg h]; simp [show ¬ b ≤ a from h]
theorem impl_within_eq (a b c : Int) : impl_within.f a b c = some (decide (b ≤ a ∧ a ≤ c)) := by
  unfold impl_within.f
  by_cases h : a ≥ b
  · rw [if_pos h]; simp [show b ≤ a from h]
  · rw [if_neg h]; simp [show ¬ b ≤ a from h]
theorem spec_nuGood_eq (k p : Int) : spec_nuGood.f k p = some (M.streetB k p) := by
  unfold spec_nuGood.f M.streetB
  simp only [spec_l1In_eq, Option.bind_some]
  by_cases h : 0 ≤ k ∧ k ≤ 2 <;> simp [h]
theorem impl_IsStreet_eq (k p : Int) : impl_IsStreet.f k p = some (M.streetB k p) := by
  unfold impl_IsStreet.f M.streetB
  simp only [impl_within_eq, Option.bind_some]
  by_cases h : 0 ≤ k ∧ k ≤ 2 <;> simp [h]
theorem spec_nuNumber_eq {k p s q : Int} (h : M.streetB k p = true) (hs : 0 ≤ s ∧ s ≤ 1) (hq : 0 ≤ q ∧ q < p) : spec_nuNumber.f k p s q = some (M.number k p s q) := by
  have h' := M.streetB_iff.1 h
  unfold spec_nuNumber.f M.number
  rw [M.w64 (x := 2 * q) (by omega) (by omega), M.w64 (x := 2 * q + 1) (by omega) (by omega), M.w64 (x := 2 * q + 1 + s) (by omega) (by omega), M.w64 (x := 2 * p) (by omega) (by omega), M.w64 (x := 2 * p - q) (by omega) (by omega), M.w64 (x := q + 1) (by omega) (by omega)]
  repeat' split
  all_goals rfl
theorem impl_numberAt_eq {k p s q : Int} (h : M.streetB k p = true) (hs : 0 ≤ s ∧ s ≤ 1) (hq : 0 ≤ q ∧ q < p) : impl_numberAt.f k p s q = some (M.number k p s q) := by
  have h' := M.streetB_iff.1 h
  unfold impl_numberAt.f M.number
  rw [M.w64 (x := 2 * q) (by omega) (by omega), M.w64 (x := 2 * q + 1) (by omega) (by omega), M.w64 (x := 2 * q + 1 + s) (by omega) (by omega), M.w64 (x := 2 * p) (by omega) (by omega), M.w64 (x := 2 * p - q) (by omega) (by omega), M.w64 (x := q + 1) (by omega) (by omega)]
  repeat' split
  all_goals rfl
theorem toStreet_eq (n l : Int) : laws_toStreet.f n l = some (n, l) := rfl
def isAt (k p s q : Int) : Prop := M.streetB k p = true ∧ (s = 0 ∨ s = 1 ∧ 0 < k) ∧ 0 ≤ q ∧ q < p
instance (k p s q : Int) : Decidable (isAt k p s q) := by unfold isAt; infer_instance
theorem spec_NumberAt_eq (k p s q : Int) : spec_NumberAt.f k p s q = some (if isAt k p s q then (M.number k p s q, true) else (0, false)) := by
  unfold spec_NumberAt.f spec_nuSide.f
  simp only [spec_nuGood_eq, spec_l1In_eq, Option.bind_some]
  by_cases h : M.streetB k p = true
  · have h' := M.streetB_iff.1 h
    rw [if_pos h, M.w64 (x := p - 1) (by omega) (by omega)]
    by_cases hs : s = 0 ∨ s = 1 ∧ 0 < k
    · have e : (if s = 0 then some true else if s = 1 then some (decide (k > 0)) else some false) = some true := by
        rcases hs with hs | ⟨hs, hk⟩
        · rw [if_pos hs]
        · rw [if_neg (by omega), if_pos hs]; simp [hk]
      rw [e]
      simp only [Option.bind_some, if_true]
      by_cases hq : 0 ≤ q ∧ q < p
      · rw [if_pos (by simp; omega), spec_nuNumber_eq h (by omega) hq, if_pos ⟨h, hs, hq⟩]; rfl
      · rw [if_neg (by simp; omega), if_neg (fun z => hq z.2.2)]
    · have e : (if s = 0 then some true else if s = 1 then some (decide (k > 0)) else some false) = some false := by
        rw [if_neg (by omega)]
        by_cases h1 : s = 1
        · rw [if_pos h1]; simp; omega
        · rw [if_neg h1]
      rw [e]
      simp only [Option.bind_some]
      rw [if_neg (by decide), if_neg (fun z => hs z.2.1)]
  · rw [if_neg h, if_neg (fun z => h z.1)]
theorem impl_NumberAt_eq (k p s q : Int) : impl_NumberAt.f k p s q = some (if isAt k p s q then (M.number k p s q, true) else (0, false)) := by
  unfold impl_NumberAt.f
  simp only [impl_IsStreet_eq, impl_within_eq, Option.bind_some]
  by_cases h : M.streetB k p = true
  · have h' := M.streetB_iff.1 h
    rw [if_pos h, M.w64 (x := p - 1) (by omega) (by omega)]
    by_cases hs : 0 ≤ s ∧ s ≤ 1
    · rw [if_pos (by simpa using hs)]
      by_cases hq : 0 ≤ q ∧ q < p
      · rw [if_pos (by simp; omega)]
        by_cases hk : k = 0
        · rw [if_pos hk]
          by_cases h1 : s = 1
          · rw [if_pos h1, if_neg (fun z => by have := z.2.1; omega)]
          · rw [if_neg h1, impl_numberAt_eq h hs hq, if_pos ⟨h, by omega, hq⟩]; rfl
        · rw [if_neg hk, impl_numberAt_eq h hs hq, if_pos ⟨h, by omega, hq⟩]; rfl
      · rw [if_neg (by simp; omega), if_neg (fun z => hq z.2.2)]
    · rw [if_neg (by simpa using hs), if_neg (fun z => by have := z.2.1; omega)]
  · rw [if_neg h, if_neg (fun z => h z.1)]
def laws_FnExactNumberAt.Pure : Prop := ∀ (a0_0 a0_1 : Int) (a1 : Int) (a2 : Int), (Lit.int .i64 a0_0).wf = true → (Lit.int .i64 a0_1).wf = true → (Lit.int .i64 a1).wf = true → (Lit.int .i64 a2).wf = true → laws_FnExactNumberAt.f a0_0 a0_1 a1 a2 = some true
theorem FnExactNumberAt : laws_FnExactNumberAt.Pure := by
  intro a b c d _ _ _ _
  unfold laws_FnExactNumberAt.f
  simp only [toStreet_eq, Option.bind_some, spec_NumberAt_eq, impl_NumberAt_eq]
  simp

end Go.Proofs.Ytachnbfdjhpjlaa.Pure
