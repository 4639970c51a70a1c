/- The program's MiddlePlate and the reference's answer the same for all 64-bit numbers: no further condition. -/
import Derived.Test.YtfoefaniefmgoaaM
import Derived.Test.YtfoefaniefmgoaaPFnExactMiddlePlatex5
namespace Go.Proofs.Ytfoefaniefmgoaa.Pure
open Go.RowKit Go.Proofs.Ytfoefaniefmgoaa.PFnExactMiddlePlate Go.Proofs.YtfoefaniefmgoaaW.PrintWords Go.Proofs.YtfoefaniefmgoaaW.PrintLast Go.Proofs.YtfoefaniefmgoaaW.PrintMore
set_option linter.unusedVariables false
set_option linter.unusedSimpArgs false
theorem spec_l1In_eq (a b c : Int) : spec_l1In.f a b c = some (decide (b ≤ a ∧ a ≤ c)) := by
  unfold spec_l1In.f
  by_cases h : a ≥ b
  · rw [if_pos h]; simp [show b ≤ a from h]
  · rw [if_neg h]; simp [show ¬ b ≤ a from h]
theorem impl_within_eq (a b c : Int) : impl_within.f a b c = some (decide (b ≤ a ∧ a ≤ c)) := by
  unfold impl_within.f
  by_cases h : a ≥ b
  · rw [if_pos h]; simp [show b ≤ a from h]
  · rw [if_neg h]; simp [show ¬ b ≤ a from h]
theorem spec_isPlate_eq (n l : Int) : spec_isPlate.f n l = some (M.plateB n l) := by
  unfold spec_isPlate.f M.plateB
  simp only [spec_l1In_eq, Option.bind_some]
  by_cases h : 1 ≤ n ∧ n ≤ 9999 <;> simp [h]
theorem impl_IsPlate_eq (n l : Int) : impl_IsPlate.f n l = some (M.plateB n l) := by
  unfold impl_IsPlate.f M.plateB
  simp only [impl_within_eq, Option.bind_some]
  by_cases h : 1 ≤ n ∧ n ≤ 9999 <;> simp [h]
theorem spec_isRank_eq {n l : Int} (h : M.plateB n l = true) : spec_isRank.f n l = some (M.rank n l) := by
  have h' := M.plateB_iff.1 h
  unfold spec_isRank.f M.rank
  rw [M.w64 (x := 27 * n) (by omega) (by omega), M.w64 (by omega) (by omega), Int.mul_comm]
theorem impl_rankOf_eq {n l : Int} (h : M.plateB n l = true) : impl_rankOf.f n l = some (M.rank n l) := by
  have h' := M.plateB_iff.1 h
  unfold impl_rankOf.f M.rank
  rw [M.w64 (x := n * 27) (by omega) (by omega), M.w64 (by omega) (by omega)]
def cntB (a b c d : Int) : Int × Bool := if M.plateB a b = true ∧ M.plateB c d = true ∧ M.rank a b < M.rank c d then (M.rank c d - M.rank a b - 1, true) else (0, false)
theorem impl_CountBetween_ev (a b c d : Int) : Ev (fun k => impl_CountBetween.f k a b c d) (cntB a b c d) := by
  unfold impl_CountBetween.f cntB
  simp only [impl_IsPlate_eq, Option.bind_some]
  by_cases h1 : M.plateB a b = true
  · by_cases h2 : M.plateB c d = true
    · have b1 := M.rank_bd h1
      have b2 := M.rank_bd h2
      simp only [h1, h2, if_true, impl_rankOf_eq h1, impl_rankOf_eq h2, Option.bind_some, true_and]
      refine M.Ev_succ (M.Ev_some fun k => ?_)
      simp only [impl_CountBetween.j0, impl_rankOf_eq h1, impl_rankOf_eq h2, Option.bind_some]
      by_cases h3 : M.rank a b < M.rank c d
      · rw [if_neg (by simp; omega), if_pos h3, M.w64 (x := M.rank c d - M.rank a b) (by omega) (by omega), M.w64 (by omega) (by omega)]
      · rw [if_pos (by simp; omega), if_neg h3]
    · simp only [h1, h2, if_true, if_false, false_and, and_false]
      exact M.Ev_succ (M.Ev_some fun k => by simp [impl_CountBetween.j0])
  · simp only [h1, if_false, false_and]
    exact M.Ev_succ (M.Ev_some fun k => by simp [impl_CountBetween.j0])
theorem spec_isOf_eq {r : Int} (h : 0 ≤ r) (h2 : r ≤ 1000000) : spec_isOf.f r = some (r / 27, r % 27) := by
  unfold spec_isOf.f
  rw [M.tdiv_pos h, M.tmod_pos h, M.w64 (by omega) (by omega)]
theorem impl_plateAt_eq {r : Int} (h : 0 ≤ r) (h2 : r ≤ 1000000) : impl_plateAt.f r = some (r / 27, r % 27) := by
  unfold impl_plateAt.f
  rw [M.tdiv_pos h, M.tmod_pos h, M.w64 (by omega) (by omega)]
def midR (a b c d : Int) : Int × Int × Bool := if M.plateB a b = true ∧ M.plateB c d = true ∧ 2 ≤ M.rank c d - M.rank a b then ((M.rank a b + M.rank c d) / 2 / 27, (M.rank a b + M.rank c d) / 2 % 27, true) else (0, 0, false)
theorem spec_MiddlePlate_ev (a b c d : Int) : Ev (fun k => spec_MiddlePlate.f k a b c d) (midR a b c d) := by
  unfold spec_MiddlePlate.f midR
  simp only [spec_isPlate_eq, Option.bind_some]
  by_cases h1 : M.plateB a b = true
  · by_cases h2 : M.plateB c d = true
    · have b1 := M.rank_bd h1
      have b2 := M.rank_bd h2
      simp only [h1, h2, if_true, spec_isRank_eq h1, spec_isRank_eq h2, Option.bind_some, true_and]
      refine M.Ev_succ (M.Ev_some fun k => ?_)
      have e1 : wrap64 (M.rank c d - M.rank a b) = M.rank c d - M.rank a b := M.w64 (by omega) (by omega)
      have e2 : wrap64 (M.rank a b + M.rank c d) = M.rank a b + M.rank c d := M.w64 (by omega) (by omega)
      have e3 : wrap64 (Int.tdiv (M.rank a b + M.rank c d) 2) = (M.rank a b + M.rank c d) / 2 := by rw [M.tdiv_pos (by omega), M.w64 (by omega) (by omega)]
      simp only [spec_MiddlePlate.j0, spec_isRank_eq h1, spec_isRank_eq h2, Option.bind_some, e1, e2, e3, spec_isOf_eq (r := (M.rank a b + M.rank c d) / 2) (by omega) (by omega)]
      by_cases h3 : 2 ≤ M.rank c d - M.rank a b
      · rw [if_neg (by simp; omega), if_pos h3]
      · rw [if_pos (by simp; omega), if_neg h3]
    · simp only [h1, h2, if_true, if_false, false_and, and_false]
      exact M.Ev_succ (M.Ev_some fun k => by simp [spec_MiddlePlate.j0])
  · simp only [h1, if_false, false_and]
    exact M.Ev_succ (M.Ev_some fun k => by simp [spec_MiddlePlate.j0])
theorem impl_MiddlePlate_ev (a b c d : Int) : Ev (fun k => impl_MiddlePlate.f k a b c d) (midR a b c d) := by
  unfold impl_MiddlePlate.f
  refine Ev.bind (impl_CountBetween_ev a b c d) ?_
  unfold cntB midR
  by_cases h : M.plateB a b = true ∧ M.plateB c d = true ∧ M.rank a b < M.rank c d
  · have b1 := M.rank_bd h.1
    have b2 := M.rank_bd h.2.1
    simp only [h, and_self, if_true, true_and]
    refine M.Ev_succ (M.Ev_some fun k => ?_)
    by_cases h3 : 2 ≤ M.rank c d - M.rank a b
    · have e0 : (M.rank c d - M.rank a b - 1 == 0) = false := by simp; omega
      have w1 : wrap64 (M.rank a b + 1) = M.rank a b + 1 := M.w64 (by omega) (by omega)
      have w2 : wrap64 (M.rank c d - M.rank a b - 1 - 1) = M.rank c d - M.rank a b - 1 - 1 := M.w64 (by omega) (by omega)
      have w3 : wrap64 (Int.tdiv (M.rank c d - M.rank a b - 1 - 1) 2) = (M.rank c d - M.rank a b - 1 - 1) / 2 := by rw [M.tdiv_pos (by omega), M.w64 (by omega) (by omega)]
      have w4 : wrap64 (M.rank a b + 1 + (M.rank c d - M.rank a b - 1 - 1) / 2) = (M.rank a b + M.rank c d) / 2 := by rw [M.w64 (by omega) (by omega)]; omega
      simp only [impl_MiddlePlate.j0, e0, Bool.false_eq_true, if_false, impl_rankOf_eq h.1, Option.bind_some, w1, w2, w3, w4, impl_plateAt_eq (r := (M.rank a b + M.rank c d) / 2) (by omega) (by omega), h3, if_true]
    · have e0 : (M.rank c d - M.rank a b - 1 == 0) = true := by simp; omega
      simp only [impl_MiddlePlate.j0, e0, if_true, h3, if_false]
  · have h' : ¬ (M.plateB a b = true ∧ M.plateB c d = true ∧ 2 ≤ M.rank c d - M.rank a b) := fun z => h ⟨z.1, z.2.1, by omega⟩
    rw [if_neg h, if_neg h']
    simp only [Bool.false_eq_true, if_false]
    exact M.Ev_succ (M.Ev_some fun k => by simp [impl_MiddlePlate.j0])
theorem toPlate_eq (n l : Int) : laws_toPlate.f n l = some (n, l) := rfl
theorem eqPlate_refl (n l : Int) : laws_eqPlate.f n l n l = some true := by
  unfold laws_eqPlate.f; rw [if_pos rfl, if_pos rfl]
def laws_FnExactMiddlePlate.Pure : Prop := ∀ (a0_0 a0_1 : Int) (a1_0 a1_1 : Int), (Lit.int .i64 a0_0).wf = true → (Lit.int .i64 a0_1).wf = true → (Lit.int .i64 a1_0).wf = true → (Lit.int .i64 a1_1).wf = true → ∃ k, laws_FnExactMiddlePlate.f k a0_0 a0_1 a1_0 a1_1 = some true
theorem FnExactMiddlePlate : laws_FnExactMiddlePlate.Pure := by
  intro a b c d _ _ _ _
  refine Ev.rounds (r := true) ?_
  unfold laws_FnExactMiddlePlate.f
  simp only [toPlate_eq, Option.bind_some]
  exact Ev.bind (spec_MiddlePlate_ev a b c d) (Ev.bind (impl_MiddlePlate_ev a b c d) (M.Ev_some fun k => by simp [eqPlate_refl]))

end Go.Proofs.Ytfoefaniefmgoaa.Pure
