/- The program's ComparePlates and the reference's answer the same for all 64-bit numbers: no further condition. -/
import Derived.Test.YtfoefaniefmgoaaM
import Derived.Test.YtfoefaniefmgoaaPFnExactComparePlatesx2
namespace Go.Proofs.Ytfoefaniefmgoaa.Pure
open Go.RowKit Go.Proofs.Ytfoefaniefmgoaa.PFnExactComparePlates Go.Proofs.YtfoefaniefmgoaaW.PrintWords Go.Proofs.YtfoefaniefmgoaaW.PrintLast Go.Proofs.YtfoefaniefmgoaaW.PrintMore
set_option linter.unusedVariables false
set_option linter.unusedSimpArgs false
theorem spec_l1In_eq (a b c : Int) : spec_l1In.f a b c = some (decide (b ≤ a ∧ a ≤ c)) := by
  unfold spec_l1In.f
  by_cases h : a ≥ b
  · rw [if_pos h]; simp [show b ≤ a from h]
  · rw [if_neg h]; simp [show ¬ b ≤ a from h]
theorem impl_within_eq (a b c : Int) : impl_within.f a b c = some (decide (b ≤ a ∧ a ≤ c)) := by
  unfold impl_within.f
  by_cases h : a ≥ b
  · rw [if_pos h]; simp [show b ≤ a from h]
  · rw [if_neg h]; simp [show ¬ b ≤ a from h]
theorem spec_isPlate_eq (n l : Int) : spec_isPlate.f n l = some (M.plateB n l) := by
  unfold spec_isPlate.f M.plateB
  simp only [spec_l1In_eq, Option.bind_some]
  by_cases h : 1 ≤ n ∧ n ≤ 9999 <;> simp [h]
theorem impl_IsPlate_eq (n l : Int) : impl_IsPlate.f n l = some (M.plateB n l) := by
  unfold impl_IsPlate.f M.plateB
  simp only [impl_within_eq, Option.bind_some]
  by_cases h : 1 ≤ n ∧ n ≤ 9999 <;> simp [h]
theorem spec_isRank_eq {n l : Int} (h : M.plateB n l = true) : spec_isRank.f n l = some (M.rank n l) := by
  have h' := M.plateB_iff.1 h
  unfold spec_isRank.f M.rank
  rw [M.w64 (x := 27 * n) (by omega) (by omega), M.w64 (by omega) (by omega), Int.mul_comm]
theorem impl_rankOf_eq {n l : Int} (h : M.plateB n l = true) : impl_rankOf.f n l = some (M.rank n l) := by
  have h' := M.plateB_iff.1 h
  unfold impl_rankOf.f M.rank
  rw [M.w64 (x := n * 27) (by omega) (by omega), M.w64 (by omega) (by omega)]
def cmpI (a b : Int) : Int := if a < b then -1 else if b < a then 1 else 0
def cmpR (a b c d : Int) : Int × Bool := if M.plateB a b = true ∧ M.plateB c d = true then (cmpI (M.rank a b) (M.rank c d), true) else (0, false)
theorem spec_l1Sign_eq (x y : Int) : spec_l1Sign.f (x - y) = some (cmpI x y) := by
  unfold spec_l1Sign.f cmpI
  by_cases h1 : x < y
  · rw [if_neg (by omega), if_pos (by omega), if_pos h1]
  · by_cases h2 : y < x
    · rw [if_pos (by omega), if_neg h1, if_pos h2]
    · rw [if_neg (by omega), if_neg (by omega), if_neg h1, if_neg h2]
theorem cmp_Compare_eq (x y : Int) : cmp_Compare_int.f x y = some (cmpI x y) := by
  unfold cmp_Compare_int.f cmp_isNaN_int.f cmpI
  simp only [Option.bind_some, bne_self_eq_false, Bool.false_eq_true, if_false, gt_iff_lt]
  repeat' split
  all_goals rfl
theorem spec_ComparePlates_ev (a b c d : Int) : Ev (fun k => spec_ComparePlates.f k a b c d) (cmpR a b c d) := by
  unfold spec_ComparePlates.f cmpR
  simp only [spec_isPlate_eq, Option.bind_some]
  by_cases h1 : M.plateB a b = true
  · by_cases h2 : M.plateB c d = true
    · have b1 := M.rank_bd h1
      have b2 := M.rank_bd h2
      simp only [h1, h2, if_true, and_self, Bool.not_true]
      refine M.Ev_succ (M.Ev_some fun k => ?_)
      simp only [spec_ComparePlates.j0, Bool.false_eq_true, if_false, spec_isRank_eq h1, spec_isRank_eq h2, Option.bind_some]
      rw [M.w64 (by omega) (by omega), spec_l1Sign_eq]
      rfl
    · simp only [h1, h2, if_true, if_false, and_false, Bool.not_eq_true, Bool.not_false]
      exact M.Ev_succ (M.Ev_some fun k => by simp [spec_ComparePlates.j0, h2])
  · simp only [h1, if_false, false_and]
    exact M.Ev_succ (M.Ev_some fun k => by simp [spec_ComparePlates.j0])
theorem impl_ComparePlates_ev (a b c d : Int) : Ev (fun k => impl_ComparePlates.f k a b c d) (cmpR a b c d) := by
  unfold impl_ComparePlates.f cmpR
  simp only [impl_IsPlate_eq, Option.bind_some]
  by_cases h1 : M.plateB a b = true
  · by_cases h2 : M.plateB c d = true
    · have b1 := M.rank_bd h1
      have b2 := M.rank_bd h2
      simp only [h1, h2, if_true, and_self, Bool.not_true]
      refine M.Ev_succ (M.Ev_some fun k => ?_)
      simp only [impl_ComparePlates.j0, Bool.false_eq_true, if_false, impl_rankOf_eq h1, impl_rankOf_eq h2, Option.bind_some, cmp_Compare_eq]
    · simp only [h1, h2, if_true, if_false, and_false, Bool.not_eq_true, Bool.not_false]
      exact M.Ev_succ (M.Ev_some fun k => by simp [impl_ComparePlates.j0, h2])
  · simp only [h1, if_false, false_and]
    exact M.Ev_succ (M.Ev_some fun k => by simp [impl_ComparePlates.j0])
theorem toPlate_eq (n l : Int) : laws_toPlate.f n l = some (n, l) := rfl
def laws_FnExactComparePlates.Pure : Prop := ∀ (a0_0 a0_1 : Int) (a1_0 a1_1 : Int), (Lit.int .i64 a0_0).wf = true → (Lit.int .i64 a0_1).wf = true → (Lit.int .i64 a1_0).wf = true → (Lit.int .i64 a1_1).wf = true → ∃ k, laws_FnExactComparePlates.f k a0_0 a0_1 a1_0 a1_1 = some true
theorem FnExactComparePlates : laws_FnExactComparePlates.Pure := by
  intro a b c d _ _ _ _
  refine Ev.rounds (r := true) ?_
  unfold laws_FnExactComparePlates.f
  simp only [toPlate_eq, Option.bind_some]
  exact Ev.bind (spec_ComparePlates_ev a b c d) (Ev.bind (impl_ComparePlates_ev a b c d) (M.Ev_some fun k => by simp))

end Go.Proofs.Ytfoefaniefmgoaa.Pure
