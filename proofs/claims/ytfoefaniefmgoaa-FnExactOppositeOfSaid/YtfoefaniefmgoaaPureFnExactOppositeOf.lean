/- The program's OppositeOf and the reference's answer the same for all 64-bit numbers: no further condition. -/
import Derived.Test.YtfoefaniefmgoaaM
import Derived.Test.YtfoefaniefmgoaaPFnExactOppositeOfx1
namespace Go.Proofs.Ytfoefaniefmgoaa.Pure
open Go.RowKit Go.Proofs.Ytfoefaniefmgoaa.PFnExactOppositeOf Go.Proofs.YtfoefaniefmgoaaW.PrintWords Go.Proofs.YtfoefaniefmgoaaW.PrintLast Go.Proofs.YtfoefaniefmgoaaW.PrintMore
set_option linter.unusedVariables false
set_option linter.unusedSimpArgs false
theorem spec_l1In_eq (a b c : Int) : spec_l1In.f a b c = some (decide (b ≤ a ∧ a ≤ c)) := by
  unfold spec_l1In.f
  by_cases h : a ≥ b
  · rw [if_pos h]; simp [show b ≤ a from h]
  · rw [if_neg h]; simp [show ¬ b ≤ a from h]
theorem impl_within_eq (a b c : Int) : impl_within.f a b c = some (decide (b ≤ a ∧ a ≤ c)) := by
  unfold impl_within.f
  by_cases h : a ≥ b
  · rw [if_pos h]; simp [show b ≤ a from h]
  · rw [if_neg h]; simp [show ¬ b ≤ a from h]
theorem spec_nuGood_eq (k p : Int) : spec_nuGood.f k p = some (M.streetB k p) := by
  unfold spec_nuGood.f M.streetB
  simp only [spec_l1In_eq, Option.bind_some]
  by_cases h : 0 ≤ k ∧ k ≤ 2 <;> simp [h]
theorem impl_IsStreet_eq (k p : Int) : impl_IsStreet.f k p = some (M.streetB k p) := by
  unfold impl_IsStreet.f M.streetB
  simp only [impl_within_eq, Option.bind_some]
  by_cases h : 0 ≤ k ∧ k ≤ 2 <;> simp [h]
theorem spec_nuHouses_eq {k p : Int} (h : M.streetB k p = true) : spec_nuHouses.f k p = some (M.houses k p) := by
  have h' := M.streetB_iff.1 h
  unfold spec_nuHouses.f M.houses
  rw [M.w64 (by omega) (by omega)]
  split <;> rfl
theorem impl_housesOf_eq {k p : Int} (h : M.streetB k p = true) : impl_housesOf.f k p = some (M.houses k p) := by
  have h' := M.streetB_iff.1 h
  unfold impl_housesOf.f M.houses
  rw [M.w64 (by omega) (by omega)]
  split <;> rfl
theorem spec_nuAsked_eq (k p n : Int) : spec_nuAsked.f k p n = some (M.asked k p n) := by
  unfold spec_nuAsked.f M.asked
  simp only [spec_nuGood_eq, Option.bind_some]
  by_cases h : M.streetB k p = true
  · rw [if_pos h, spec_nuHouses_eq h]
    simp only [Option.bind_some, spec_l1In_eq, h, Bool.true_and]
  · rw [if_neg h]; simp [h]
theorem impl_isHouse_eq (k p n : Int) : impl_isHouse.f k p n = some (M.asked k p n) := by
  unfold impl_isHouse.f M.asked
  simp only [impl_IsStreet_eq, Option.bind_some]
  by_cases h : M.streetB k p = true
  · rw [if_pos h, impl_housesOf_eq h]
    simp only [Option.bind_some, impl_within_eq, h, Bool.true_and]
  · rw [if_neg h]; simp [h]
theorem spec_nuPlot_eq {k p n : Int} (h : M.asked k p n = true) : spec_nuPlot.f k p n = some (M.side k p n, M.plot k p n) := by
  have hb := M.asked_bd h
  unfold spec_nuPlot.f M.side M.plot
  rw [M.tmod_pos (a := n) (by omega), M.w64 (x := n - 1) (by omega) (by omega), M.tdiv_pos (a := n - 1) (by omega), M.w64 (x := 1 - n % 2) (by omega) (by omega), M.w64 (x := (n - 1) / 2) (by omega) (by omega), M.w64 (x := 2 * p) (by omega) (by omega), M.w64 (x := 2 * p - n) (by omega) (by omega)]
  by_cases c : k = 1
  · simp only [c, if_true]
    rw [show 1 - n % 2 = (n - 1) % 2 by omega]
  · simp only [c, if_false]
    split <;> rfl
theorem impl_plotOf_eq {k p n : Int} (h : M.asked k p n = true) : impl_plotOf.f k p n = some (M.side k p n, M.plot k p n) := by
  have hb := M.asked_bd h
  unfold impl_plotOf.f M.side M.plot
  rw [M.w64 (x := n - 1) (by omega) (by omega), M.tmod_pos (a := n - 1) (by omega), M.tdiv_pos (a := n - 1) (by omega), M.w64 (x := (n - 1) / 2) (by omega) (by omega), M.w64 (x := 2 * p) (by omega) (by omega), M.w64 (x := 2 * p - n) (by omega) (by omega)]
  by_cases c : k = 1
  · simp only [c, if_true]
  · simp only [c, if_false]
    split <;> rfl
theorem spec_nuNumber_eq {k p s q : Int} (h : M.streetB k p = true) (hs : 0 ≤ s ∧ s ≤ 1) (hq : 0 ≤ q ∧ q < p) : spec_nuNumber.f k p s q = some (M.number k p s q) := by
  have h' := M.streetB_iff.1 h
  unfold spec_nuNumber.f M.number
  rw [M.w64 (x := 2 * q) (by omega) (by omega), M.w64 (x := 2 * q + 1) (by omega) (by omega), M.w64 (x := 2 * q + 1 + s) (by omega) (by omega), M.w64 (x := 2 * p) (by omega) (by omega), M.w64 (x := 2 * p - q) (by omega) (by omega), M.w64 (x := q + 1) (by omega) (by omega)]
  repeat' split
  all_goals rfl
theorem impl_numberAt_eq {k p s q : Int} (h : M.streetB k p = true) (hs : 0 ≤ s ∧ s ≤ 1) (hq : 0 ≤ q ∧ q < p) : impl_numberAt.f k p s q = some (M.number k p s q) := by
  have h' := M.streetB_iff.1 h
  unfold impl_numberAt.f M.number
  rw [M.w64 (x := 2 * q) (by omega) (by omega), M.w64 (x := 2 * q + 1) (by omega) (by omega), M.w64 (x := 2 * q + 1 + s) (by omega) (by omega), M.w64 (x := 2 * p) (by omega) (by omega), M.w64 (x := 2 * p - q) (by omega) (by omega), M.w64 (x := q + 1) (by omega) (by omega)]
  repeat' split
  all_goals rfl
def oppR (k p n : Int) : Int × Bool := if M.asked k p n = true ∧ k ≠ 0 then (M.number k p (1 - M.side k p n) (M.plot k p n), true) else (0, false)
theorem spec_OppositeOf_ev (k p n : Int) : Ev (fun r => spec_OppositeOf.f r k p n) (oppR k p n) := by
  unfold spec_OppositeOf.f oppR
  simp only [spec_nuAsked_eq, Option.bind_some]
  by_cases h : M.asked k p n = true
  · have hb := M.asked_bd h
    by_cases c : k = 0
    · simp only [h, c, if_true]
      exact M.Ev_succ (M.Ev_some fun r => by simp [spec_OppositeOf.j0])
    · simp only [h, if_true, true_and, show (k == 0) = false by simpa using c]
      refine M.Ev_succ (M.Ev_some fun r => ?_)
      simp only [spec_OppositeOf.j0, Bool.false_eq_true, if_false, spec_nuPlot_eq h, Option.bind_some]
      rw [M.w64 (x := 1 - M.side k p n) (by omega) (by omega), spec_nuNumber_eq (M.asked_iff.1 h).1 (by omega) (by omega), if_pos c]
      rfl
  · simp only [h, if_false, false_and]
    exact M.Ev_succ (M.Ev_some fun r => by simp [spec_OppositeOf.j0])
theorem impl_OppositeOf_ev (k p n : Int) : Ev (fun r => impl_OppositeOf.f r k p n) (oppR k p n) := by
  unfold impl_OppositeOf.f oppR
  simp only [impl_isHouse_eq, Option.bind_some]
  by_cases h : M.asked k p n = true
  · have hb := M.asked_bd h
    by_cases c : k = 0
    · simp only [h, c, if_true]
      exact M.Ev_succ (M.Ev_some fun r => by simp [impl_OppositeOf.j0])
    · simp only [h, if_true, true_and, show (k == 0) = false by simpa using c]
      refine M.Ev_succ (M.Ev_some fun r => ?_)
      simp only [impl_OppositeOf.j0, Bool.false_eq_true, if_false, impl_plotOf_eq h, Option.bind_some]
      rw [M.w64 (x := 1 - M.side k p n) (by omega) (by omega), impl_numberAt_eq (M.asked_iff.1 h).1 (by omega) (by omega), if_pos c]
      rfl
  · simp only [h, if_false, false_and]
    exact M.Ev_succ (M.Ev_some fun r => by simp [impl_OppositeOf.j0])
theorem toStreet_eq (n l : Int) : laws_toStreet.f n l = some (n, l) := rfl
def laws_FnExactOppositeOf.Pure : Prop := ∀ (a0_0 a0_1 : Int) (a1 : Int), (Lit.int .i64 a0_0).wf = true → (Lit.int .i64 a0_1).wf = true → (Lit.int .i64 a1).wf = true → ∃ k, laws_FnExactOppositeOf.f k a0_0 a0_1 a1 = some true
theorem FnExactOppositeOf : laws_FnExactOppositeOf.Pure := by
  intro a b c _ _ _
  refine Ev.rounds (r := true) ?_
  unfold laws_FnExactOppositeOf.f
  simp only [toStreet_eq, Option.bind_some]
  exact Ev.bind (spec_OppositeOf_ev a b c) (Ev.bind (impl_OppositeOf_ev a b c) (M.Ev_some fun k => by simp))

end Go.Proofs.Ytfoefaniefmgoaa.Pure
