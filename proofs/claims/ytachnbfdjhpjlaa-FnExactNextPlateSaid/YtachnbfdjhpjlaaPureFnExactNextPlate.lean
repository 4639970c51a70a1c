/- The program's NextPlate and the reference's answer the same for all pairs of 64-bit numbers: no further condition. -/
import Derived.Test.YtachnbfdjhpjlaaM
import Derived.Test.YtachnbfdjhpjlaaPFnExactNextPlatex1
namespace Go.Proofs.Ytachnbfdjhpjlaa.Pure
open Go.RowKit Go.Proofs.Ytachnbfdjhpjlaa.PFnExactNextPlate Go.Proofs.YtachnbfdjhpjlaaW.PrintWords Go.Proofs.YtachnbfdjhpjlaaW.PrintLast Go.Proofs.YtachnbfdjhpjlaaW.PrintMore
set_option linter.unusedVariables false
set_option linter.unusedSimpArgs false
theorem spec_l1In_eq (a b c : Int) : spec_l1In.f a b c = some (decide (b ≤ a ∧ a ≤ c)) := by
  unfold spec_l1In.f
  by_cases h : a ≥ b
  · rw [if_pos h]; simp [show b ≤ a from h]
  · rw [if_neg h]; simp [show ¬ b ≤ a from h]
theorem impl_within_eq (a b c : Int) : impl_within.f a b c = some (decide (b ≤ a ∧ a ≤ c)) := by
  unfold impl_within.f
  by_cases h : a ≥ b
  · rw [if_pos h]; simp [show b ≤ a from h]
  · rw [if_neg h]; simp [show ¬ b ≤ a from h]
theorem spec_isPlate_eq (n l : Int) : spec_isPlate.f n l = some (M.plateB n l) := by
  unfold spec_isPlate.f M.plateB
  simp only [spec_l1In_eq, Option.bind_some]
  by_cases h : 1 ≤ n ∧ n ≤ 9999 <;> simp [h]
theorem impl_IsPlate_eq (n l : Int) : impl_IsPlate.f n l = some (M.plateB n l) := by
  unfold impl_IsPlate.f M.plateB
  simp only [impl_within_eq, Option.bind_some]
  by_cases h : 1 ≤ n ∧ n ≤ 9999 <;> simp [h]
theorem spec_isRank_eq {n l : Int} (h : M.plateB n l = true) : spec_isRank.f n l = some (M.rank n l) := by
  have h' := M.plateB_iff.1 h
  unfold spec_isRank.f M.rank
  rw [M.w64 (x := 27 * n) (by omega) (by omega), M.w64 (by omega) (by omega), Int.mul_comm]
theorem impl_rankOf_eq {n l : Int} (h : M.plateB n l = true) : impl_rankOf.f n l = some (M.rank n l) := by
  have h' := M.plateB_iff.1 h
  unfold impl_rankOf.f M.rank
  rw [M.w64 (x := n * 27) (by omega) (by omega), M.w64 (by omega) (by omega)]
theorem spec_isOf_eq {r : Int} (h : 0 ≤ r) (h2 : r ≤ 1000000) : spec_isOf.f r = some (r / 27, r % 27) := by
  unfold spec_isOf.f
  rw [M.tdiv_pos h, M.tmod_pos h, M.w64 (by omega) (by omega)]
theorem impl_plateAt_eq {r : Int} (h : 0 ≤ r) (h2 : r ≤ 1000000) : impl_plateAt.f r = some (r / 27, r % 27) := by
  unfold impl_plateAt.f
  rw [M.tdiv_pos h, M.tmod_pos h, M.w64 (by omega) (by omega)]
def nextP (a b : Int) : Int × Int × Bool := if M.plateB a b = true ∧ M.rank a b ≠ 269999 then ((M.rank a b + 1) / 27, (M.rank a b + 1) % 27, true) else (0, 0, false)
theorem spec_NextPlate_ev (a b : Int) : Ev (fun k => spec_NextPlate.f k a b) (nextP a b) := by
  unfold spec_NextPlate.f nextP
  simp only [spec_isPlate_eq, Option.bind_some]
  by_cases h1 : M.plateB a b = true
  · have b1 := M.rank_bd h1
    simp only [h1, if_true, true_and, spec_isRank_eq h1, Option.bind_some]
    rw [M.w64 (x := M.rank a b + 1) (by omega) (by omega)]
    simp only [spec_isOf_eq (r := M.rank a b + 1) (by omega) (by omega), Option.bind_some, spec_isPlate_eq]
    refine M.Ev_succ (M.Ev_some fun k => ?_)
    simp only [spec_NextPlate.j0, spec_isRank_eq h1, Option.bind_some]
    rw [M.w64 (x := M.rank a b + 1) (by omega) (by omega)]
    simp only [spec_isOf_eq (r := M.rank a b + 1) (by omega) (by omega), Option.bind_some]
    by_cases h2 : M.rank a b = 269999
    · rw [if_pos (by rw [h2]; decide), if_neg (by simp [h2])]
    · rw [if_neg (by rw [M.plateB_of _ (by omega) (by omega)]; decide), if_pos h2]
  · simp only [h1, if_false, false_and]
    exact M.Ev_succ (M.Ev_some fun k => by simp [spec_NextPlate.j0])
theorem impl_NextPlate_ev (a b : Int) : Ev (fun k => impl_NextPlate.f k a b) (nextP a b) := by
  unfold impl_NextPlate.f nextP
  simp only [impl_IsPlate_eq, Option.bind_some]
  by_cases h1 : M.plateB a b = true
  · have b1 := M.rank_bd h1
    simp only [h1, if_true, true_and, impl_rankOf_eq h1, Option.bind_some]
    refine M.Ev_succ (M.Ev_some fun k => ?_)
    simp only [impl_NextPlate.j0, impl_rankOf_eq h1, Option.bind_some]
    rw [M.w64 (x := M.rank a b + 1) (by omega) (by omega)]
    simp only [impl_plateAt_eq (r := M.rank a b + 1) (by omega) (by omega), Option.bind_some]
    by_cases h2 : M.rank a b = 269999
    · rw [if_pos (by rw [h2]; rfl), if_neg (by simp [h2])]
    · rw [if_neg (by simpa using h2), if_pos h2]
  · simp only [h1, if_false, false_and]
    exact M.Ev_succ (M.Ev_some fun k => by simp [impl_NextPlate.j0])
theorem toPlate_eq (n l : Int) : laws_toPlate.f n l = some (n, l) := rfl
theorem eqPlate_refl (n l : Int) : laws_eqPlate.f n l n l = some true := by
  unfold laws_eqPlate.f; rw [if_pos rfl, if_pos rfl]
def laws_FnExactNextPlate.Pure : Prop := ∀ (a0_0 a0_1 : Int), (Lit.int .i64 a0_0).wf = true → (Lit.int .i64 a0_1).wf = true → ∃ k, laws_FnExactNextPlate.f k a0_0 a0_1 = some true
theorem FnExactNextPlate : laws_FnExactNextPlate.Pure := by
  intro a b _ _
  refine Ev.rounds (r := true) ?_
  unfold laws_FnExactNextPlate.f
  simp only [toPlate_eq, Option.bind_some]
  exact Ev.bind (spec_NextPlate_ev a b) (Ev.bind (impl_NextPlate_ev a b) (M.Ev_some fun k => by simp [eqPlate_refl]))

end Go.Proofs.Ytachnbfdjhpjlaa.Pure
