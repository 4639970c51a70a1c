/- The program's WalkBetween and the reference's answer the same for all 64-bit numbers: no further condition. -/
import Derived.Test.YtfoefaniefmgoaaM
import Derived.Test.YtfoefaniefmgoaaPFnExactWalkBetweenx2
namespace Go.Proofs.Ytfoefaniefmgoaa.Pure
open Go.RowKit Go.Proofs.Ytfoefaniefmgoaa.PFnExactWalkBetween Go.Proofs.YtfoefaniefmgoaaW.PrintWords Go.Proofs.YtfoefaniefmgoaaW.PrintLast Go.Proofs.YtfoefaniefmgoaaW.PrintMore
set_option linter.unusedVariables false
set_option linter.unusedSimpArgs false
theorem spec_l1In_eq (a b c : Int) : spec_l1In.f a b c = some (decide (b ≤ a ∧ a ≤ c)) := by
  unfold spec_l1In.f
  by_cases h : a ≥ b
  · rw [if_pos h]; simp [show b ≤ a from h]
  · rw [if_neg h]; simp [show ¬ b ≤ a from h]
theorem impl_within_eq (a b c : Int) : impl_within.f a b c = some (decide (b ≤ a ∧ a ≤ c)) := by
  unfold impl_within.f
  by_cases h : a ≥ b
  · rw [if_pos h]; simp [show b ≤ a from h]
  · rw [if_neg h]; simp [show ¬ b ≤ a from h]
theorem spec_nuGood_eq (k p : Int) : spec_nuGood.f k p = some (M.streetB k p) := by
  unfold spec_nuGood.f M.streetB
  simp only [spec_l1In_eq, Option.bind_some]
  by_cases h : 0 ≤ k ∧ k ≤ 2 <;> simp [h]
theorem impl_IsStreet_eq (k p : Int) : impl_IsStreet.f k p = some (M.streetB k p) := by
  unfold impl_IsStreet.f M.streetB
  simp only [impl_within_eq, Option.bind_some]
  by_cases h : 0 ≤ k ∧ k ≤ 2 <;> simp [h]
theorem spec_nuHouses_eq {k p : Int} (h : M.streetB k p = true) : spec_nuHouses.f k p = some (M.houses k p) := by
  have h' := M.streetB_iff.1 h
  unfold spec_nuHouses.f M.houses
  rw [M.w64 (by omega) (by omega)]
  split <;> rfl
theorem impl_housesOf_eq {k p : Int} (h : M.streetB k p = true) : impl_housesOf.f k p = some (M.houses k p) := by
  have h' := M.streetB_iff.1 h
  unfold impl_housesOf.f M.houses
  rw [M.w64 (by omega) (by omega)]
  split <;> rfl
theorem spec_nuAsked_eq (k p n : Int) : spec_nuAsked.f k p n = some (M.asked k p n) := by
  unfold spec_nuAsked.f M.asked
  simp only [spec_nuGood_eq, Option.bind_some]
  by_cases h : M.streetB k p = true
  · rw [if_pos h, spec_nuHouses_eq h]
    simp only [Option.bind_some, spec_l1In_eq, h, Bool.true_and]
  · rw [if_neg h]; simp [h]
theorem impl_isHouse_eq (k p n : Int) : impl_isHouse.f k p n = some (M.asked k p n) := by
  unfold impl_isHouse.f M.asked
  simp only [impl_IsStreet_eq, Option.bind_some]
  by_cases h : M.streetB k p = true
  · rw [if_pos h, impl_housesOf_eq h]
    simp only [Option.bind_some, impl_within_eq, h, Bool.true_and]
  · rw [if_neg h]; simp [h]
theorem spec_nuPlot_eq {k p n : Int} (h : M.asked k p n = true) : spec_nuPlot.f k p n = some (M.side k p n, M.plot k p n) := by
  have hb := M.asked_bd h
  unfold spec_nuPlot.f M.side M.plot
  rw [M.tmod_pos (a := n) (by omega), M.w64 (x := n - 1) (by omega) (by omega), M.tdiv_pos (a := n - 1) (by omega), M.w64 (x := 1 - n % 2) (by omega) (by omega), M.w64 (x := (n - 1) / 2) (by omega) (by omega), M.w64 (x := 2 * p) (by omega) (by omega), M.w64 (x := 2 * p - n) (by omega) (by omega)]
  by_cases c : k = 1
  · simp only [c, if_true]
    rw [show 1 - n % 2 = (n - 1) % 2 by omega]
  · simp only [c, if_false]
    split <;> rfl
theorem impl_plotOf_eq {k p n : Int} (h : M.asked k p n = true) : impl_plotOf.f k p n = some (M.side k p n, M.plot k p n) := by
  have hb := M.asked_bd h
  unfold impl_plotOf.f M.side M.plot
  rw [M.w64 (x := n - 1) (by omega) (by omega), M.tmod_pos (a := n - 1) (by omega), M.tdiv_pos (a := n - 1) (by omega), M.w64 (x := (n - 1) / 2) (by omega) (by omega), M.w64 (x := 2 * p) (by omega) (by omega), M.w64 (x := 2 * p - n) (by omega) (by omega)]
  by_cases c : k = 1
  · simp only [c, if_true]
  · simp only [c, if_false]
    split <;> rfl
theorem spec_l1Abs_eq {x : Int} (h0 : -1000000 ≤ x) (h1 : x ≤ 1000000) : spec_l1Abs.f x = some (x.natAbs : Int) := by
  unfold spec_l1Abs.f spec_l1Most.f
  rw [M.w64 (x := -x) (by omega) (by omega)]
  by_cases c : x > -x
  · rw [if_pos c]; simp only [Option.bind_some]; congr 1; omega
  · rw [if_neg c]; simp only [Option.bind_some]; congr 1; omega
theorem impl_absOf_eq {x : Int} (h0 : -1000000 ≤ x) (h1 : x ≤ 1000000) : impl_absOf.f x = some (x.natAbs : Int) := by
  unfold impl_absOf.f mx
  rw [M.w64 (x := -x) (by omega) (by omega)]
  congr 1
  split <;> omega
def walkR (k p a b w : Int) : Int × Bool := if M.asked k p a = true ∧ M.asked k p b = true ∧ 0 ≤ w ∧ w ≤ 1000 then
  (if M.side k p a = M.side k p b then (((M.plot k p a - M.plot k p b).natAbs : Int), true) else (((M.plot k p a - M.plot k p b).natAbs : Int) + w, true)) else (0, false)
theorem spec_WalkBetween_ev (k p a b w : Int) : Ev (fun r => spec_WalkBetween.f r k p a b w) (walkR k p a b w) := by
  unfold spec_WalkBetween.f walkR
  simp only [spec_nuAsked_eq, Option.bind_some]
  by_cases h : M.asked k p a = true
  · have hb := M.asked_bd h
    by_cases h' : M.asked k p b = true
    · have hb' := M.asked_bd h'
      simp only [h, h', if_true, true_and, spec_l1In_eq, Option.bind_some]
      by_cases c : 0 ≤ w ∧ w ≤ 1000
      · refine M.Ev_succ (M.Ev_some fun r => ?_)
        simp only [spec_WalkBetween.j0, c, and_self, decide_true, Bool.not_true, Bool.false_eq_true, if_false, if_true, spec_nuPlot_eq h, spec_nuPlot_eq h', Option.bind_some]
        rw [M.w64 (x := M.plot k p a - M.plot k p b) (by omega) (by omega), spec_l1Abs_eq (by omega) (by omega)]
        simp only [Option.bind_some]
        rw [M.w64 (by omega) (by omega)]
        split <;> rfl
      · simp only [c, decide_false, Bool.not_false, if_false]
        exact M.Ev_succ (M.Ev_some fun r => by simp [spec_WalkBetween.j0])
    · simp only [h, h', if_true, if_false, true_and, false_and]
      exact M.Ev_succ (M.Ev_some fun r => by simp [spec_WalkBetween.j0])
  · simp only [h, if_false, false_and]
    exact M.Ev_succ (M.Ev_some fun r => by simp [spec_WalkBetween.j0])
theorem impl_WalkBetween_ev (k p a b w : Int) : Ev (fun r => impl_WalkBetween.f r k p a b w) (walkR k p a b w) := by
  unfold impl_WalkBetween.f walkR
  simp only [impl_isHouse_eq, Option.bind_some]
  by_cases h : M.asked k p a = true
  · have hb := M.asked_bd h
    by_cases h' : M.asked k p b = true
    · have hb' := M.asked_bd h'
      simp only [h, h', if_true, true_and, impl_within_eq, Option.bind_some]
      by_cases c : 0 ≤ w ∧ w ≤ 1000
      · refine M.Ev_succ (M.Ev_some fun r => ?_)
        simp only [impl_WalkBetween.j0, c, and_self, decide_true, Bool.not_true, Bool.false_eq_true, if_false, if_true, impl_plotOf_eq h, impl_plotOf_eq h', Option.bind_some]
        rw [M.w64 (x := M.plot k p a - M.plot k p b) (by omega) (by omega), impl_absOf_eq (by omega) (by omega)]
        simp only [Option.bind_some]
        rw [M.w64 (by omega) (by omega)]
        split <;> rfl
      · simp only [c, decide_false, Bool.not_false, if_false]
        exact M.Ev_succ (M.Ev_some fun r => by simp [impl_WalkBetween.j0])
    · simp only [h, h', if_true, if_false, true_and, false_and]
      exact M.Ev_succ (M.Ev_some fun r => by simp [impl_WalkBetween.j0])
  · simp only [h, if_false, false_and]
    exact M.Ev_succ (M.Ev_some fun r => by simp [impl_WalkBetween.j0])
theorem toStreet_eq (n l : Int) : laws_toStreet.f n l = some (n, l) := rfl
def laws_FnExactWalkBetween.Pure : Prop := ∀ (a0_0 a0_1 : Int) (a1 : Int) (a2 : Int) (a3 : Int), (Lit.int .i64 a0_0).wf = true → (Lit.int .i64 a0_1).wf = true → (Lit.int .i64 a1).wf = true → (Lit.int .i64 a2).wf = true → (Lit.int .i64 a3).wf = true → ∃ k, laws_FnExactWalkBetween.f k a0_0 a0_1 a1 a2 a3 = some true
theorem FnExactWalkBetween : laws_FnExactWalkBetween.Pure := by
  intro a b c d e _ _ _ _ _
  refine Ev.rounds (r := true) ?_
  unfold laws_FnExactWalkBetween.f
  simp only [toStreet_eq, Option.bind_some]
  exact Ev.bind (spec_WalkBetween_ev a b c d e) (Ev.bind (impl_WalkBetween_ev a b c d e) (M.Ev_some fun k => by simp))

end Go.Proofs.Ytfoefaniefmgoaa.Pure
