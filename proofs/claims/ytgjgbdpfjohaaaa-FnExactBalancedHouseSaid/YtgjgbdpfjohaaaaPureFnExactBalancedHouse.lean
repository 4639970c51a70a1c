/- The program's BalancedHouse and the reference's answer the same for all numbers: no further condition. -/
import Derived.Test.YtgjgbdpfjohaaaaM
import Derived.Test.YtgjgbdpfjohaaaaPFnExactBalancedHousex1
namespace Go.Proofs.Ytgjgbdpfjohaaaa.Pure
open Go.RowKit Go.Proofs.Ytgjgbdpfjohaaaa.PFnExactBalancedHouse Go.Proofs.YtgjgbdpfjohaaaaW.PrintWords Go.Proofs.YtgjgbdpfjohaaaaW.PrintLast Go.Proofs.YtgjgbdpfjohaaaaW.PrintMore
set_option linter.unusedVariables false
set_option linter.unusedSimpArgs false
theorem spec_l1In_eq (a b c : Int) : spec_l1In.f a b c = some (decide (b ≤ a ∧ a ≤ c)) := by
  unfold spec_l1In.f
  by_cases h : a ≥ b
  · rw [if_pos h]; simp [show b ≤ a from h]
  · rw [if_neg h]; simp [show ¬ b ≤ a from h]
theorem impl_within_eq (a b c : Int) : impl_within.f a b c = some (decide (b ≤ a ∧ a ≤ c)) := by
  unfold impl_within.f
  by_cases h : a ≥ b
  · rw [if_pos h]; simp [show b ≤ a from h]
  · rw [if_neg h]; simp [show ¬ b ≤ a from h]
theorem spec_nuMost_eq (a : Int) : spec_nuMost.f a = some (decide (1 ≤ a ∧ a ≤ 1000000)) := by
  unfold spec_nuMost.f; rw [spec_l1In_eq]; rfl
theorem impl_isMost_eq (a : Int) : impl_isMost.f a = some (decide (1 ≤ a ∧ a ≤ 1000000)) := by
  unfold impl_isMost.f; rw [impl_within_eq]; rfl
theorem balStop (s lo : Nat) (hlo : lo ≤ 1000000) : Ev (fun k => spec_nuBalanced.l0 k (s : Int) (lo : Int) (lo : Int)) ((lo : Int), decide (lo * lo = s)) := by
  have hq := Nat.mul_le_mul hlo hlo
  obtain ⟨q, hqe⟩ : ∃ q, lo * lo = q := ⟨_, rfl⟩
  have e : wrap64 ((lo : Int) * (lo : Int)) = (q : Int) := by
    rw [← Int.natCast_mul, hqe]
    rw [hqe] at hq
    exact M.w64 (by omega) (by omega)
  rw [hqe]
  refine M.Ev_succ (M.Ev_some fun k => ?_)
  simp only [spec_nuBalanced.l0, Int.lt_irrefl, if_false, e]
  congr 2
  rw [Bool.eq_iff_iff]
  simp only [beq_iff_eq, decide_eq_true_eq]
  omega
theorem balStep (s lo hi md : Nat) (hmd : (lo + hi) / 2 = md) (c : lo < hi) (h2 : hi ≤ 1000000) : wrap64 (Int.tdiv (wrap64 ((lo : Int) + (hi : Int))) 2) = (md : Int) ∧ wrap64 ((md : Int) * (md : Int)) = ((md * md : Nat) : Int) ∧ wrap64 ((md : Int) + 1) = ((md + 1 : Nat) : Int) := by
  have hm : md ≤ 1000000 := by omega
  have hq := Nat.mul_le_mul hm hm
  refine ⟨?_, ?_, ?_⟩
  · rw [M.w64 (x := (lo : Int) + (hi : Int)) (by omega) (by omega), M.tdiv_pos (by omega), M.w64 (by omega) (by omega)]; omega
  · rw [← Int.natCast_mul]
    generalize md * md = q at hq
    exact M.w64 (by omega) (by omega)
  · rw [M.w64 (by omega) (by omega)]; omega
theorem balLoop (s : Nat) : ∀ (d lo hi : Nat), hi - (lo + 1) ≤ d → lo + 1 ≤ hi → hi ≤ 1000000 → s ≤ hi * hi → lo * lo < s →
    ∃ L : Nat, L + 1 ≤ 1000000 ∧ s ≤ (L + 1) * (L + 1) ∧ L * L < s ∧ Ev (fun k => spec_nuBalanced.l0 k (s : Int) ((lo + 1 : Nat) : Int) (hi : Int)) (((L + 1 : Nat) : Int), decide ((L + 1) * (L + 1) = s)) := by
  intro d
  induction d with
  | zero =>
    intro lo hi hd hle h2 h3 h4
    obtain rfl : lo + 1 = hi := by omega
    exact ⟨lo, h2, h3, h4, balStop s (lo + 1) h2⟩
  | succ d ih =>
    intro lo hi hd hle h2 h3 h4
    by_cases c : lo + 1 < hi
    · obtain ⟨md, hmd⟩ : ∃ md, (lo + 1 + hi) / 2 = md := ⟨_, rfl⟩
      have a1 : hi - (md + 1) ≤ d := by omega
      have a2 : md + 1 ≤ hi := by omega
      have a3 : md - (lo + 1) ≤ d := by omega
      have a4 : lo + 1 ≤ md := by omega
      have a5 : md ≤ 1000000 := by omega
      have a6 : ((lo + 1 : Nat) : Int) < (hi : Int) := by omega
      obtain ⟨em, eq, e1⟩ := balStep s (lo + 1) hi md hmd c h2
      by_cases cr : md * md < s
      · obtain ⟨L, b, c', d', e'⟩ := ih md hi a1 a2 h2 h3 cr
        refine ⟨L, b, c', d', M.Ev_succ ?_⟩
        have cr' : ((md * md : Nat) : Int) < (s : Int) := by exact_mod_cast cr
        simp only [spec_nuBalanced.l0, a6, if_true, em, eq, cr', e1]
        exact e'
      · obtain ⟨L, b, c', d', e'⟩ := ih lo md a3 a4 a5 (Nat.le_of_not_lt cr) h4
        refine ⟨L, b, c', d', M.Ev_succ ?_⟩
        have cr' : ¬ (((md * md : Nat) : Int) < (s : Int)) := by exact_mod_cast cr
        simp only [spec_nuBalanced.l0, a6, if_true, em, eq, cr', if_false]
        exact e'
    · obtain rfl : lo + 1 = hi := by omega
      exact ⟨lo, h2, h3, h4, balStop s (lo + 1) h2⟩
theorem sq_succ (L : Nat) : (L + 1) * (L + 1) = L * L + 2 * L + 1 := by rw [Nat.add_mul, Nat.mul_add]; omega
/-- The reference's search finds the house that the program finds, and tells where there is none. -/
theorem balanced_ev (m : Nat) (h1 : 1 ≤ m) (h2 : m ≤ 1000000) : ∃ r : Int × Bool, Ev (fun k => spec_nuBalanced.f k (m : Int)) r ∧ r.2 = decide (0 < impl_balancedHouse.bal m) ∧ (r.2 = true → r.1 = (impl_balancedHouse.bal m : Nat)) := by
  have hp := Nat.mul_le_mul h2 (show m + 1 ≤ 1000001 by omega)
  have hmm := Nat.mul_le_mul h1 (Nat.le_refl m)
  obtain ⟨p, hpe⟩ : ∃ p : Nat, m * (m + 1) = p := ⟨_, rfl⟩
  have e0 : (m : Int) * ((m : Int) + 1) = (p : Int) := by rw [← hpe]; simp
  have hpm : p = m * m + m := by rw [← hpe, Nat.mul_add, Nat.mul_one]
  have hp2 := Nat.mul_le_mul h1 (show 2 ≤ m + 1 by omega)
  rw [hpe] at hp hp2
  obtain ⟨L, l2, l3, l4, l5⟩ := balLoop (p / 2) m 0 m (by omega) (by omega) h2 (by omega) (by omega)
  refine ⟨(((L + 1 : Nat) : Int), decide ((L + 1) * (L + 1) = p / 2)), ?_, ?_⟩
  · unfold spec_nuBalanced.f
    have e1 : wrap64 (Int.tdiv (wrap64 ((m : Int) * wrap64 ((m : Int) + 1))) 2) = ((p / 2 : Nat) : Int) := by
      rw [M.w64 (x := (m : Int) + 1) (by omega) (by omega), e0, M.w64 (x := (p : Int)) (by omega) (by omega), M.tdiv_pos (by omega), M.w64 (by omega) (by omega)]; omega
    rw [e1]
    exact l5
  · unfold impl_balancedHouse.bal
    rw [hpe]
    obtain ⟨g1, g2⟩ := impl_balancedHouse.root_is (p / 2)
    have k1 := sq_succ L
    have k2 := sq_succ (L + 1)
    by_cases c : (L + 1) * (L + 1) = p / 2
    · have hr : impl_balancedHouse.root (p / 2) = L + 1 := impl_balancedHouse.root_eq (by omega) (by omega)
      simp only [hr, c, if_true, decide_true]
      exact ⟨by simp, by simp⟩
    · have hr : ¬ impl_balancedHouse.root (p / 2) * impl_balancedHouse.root (p / 2) = p / 2 := by
        intro z
        apply c
        generalize impl_balancedHouse.root (p / 2) = r at z g1 g2
        have hrl : r = L + 1 := by
          rcases Nat.lt_trichotomy r (L + 1) with h | h | h
          · have := Nat.mul_le_mul (show r ≤ L by omega) (show r ≤ L by omega)
            omega
          · exact h
          · have := Nat.mul_le_mul (show L + 1 + 1 ≤ r from h) (show L + 1 + 1 ≤ r from h)
            omega
        rw [← hrl]; exact z
      simp only [hr, c, if_false, decide_false]
      exact ⟨by simp, fun h => by simp at h⟩
theorem FnExactBalancedHouse : laws_FnExactBalancedHouse.Pure := by
  intro a ha
  refine Ev.rounds (r := true) ?_
  unfold laws_FnExactBalancedHouse.f spec_BalancedHouse.f impl_BalancedHouse.f
  simp only [spec_nuMost_eq, impl_isMost_eq, Option.bind_some]
  by_cases c : 1 ≤ a ∧ a ≤ 1000000
  · obtain ⟨m, rfl⟩ : ∃ m : Nat, a = (m : Int) := ⟨a.toNat, by omega⟩
    obtain ⟨⟨x, b⟩, h1, h2, h3⟩ := balanced_ev m (by omega) (by omega)
    have hf : impl_balancedHouse.f (m : Int) = some ((impl_balancedHouse.bal m : Nat) : Int) := by
      unfold impl_balancedHouse.f
      rw [if_pos c, Int.toNat_natCast]
    simp only [c, and_self, decide_true, if_true, hf, Option.bind_some]
    refine Ev.bind (Ev.bind h1 (a := (x, b)) (r := if b = true then (x, true) else (0, false)) (M.Ev_some fun k => by cases b <;> rfl)) (M.Ev_some fun k => ?_)
    simp only at h2 h3
    cases b with
    | true =>
      have := h3 rfl
      have h4 : 0 < impl_balancedHouse.bal m := of_decide_eq_true h2.symm
      rw [this]
      simp [h4]
    | false =>
      have h4 : ¬ 0 < impl_balancedHouse.bal m := of_decide_eq_false h2.symm
      have h5 : impl_balancedHouse.bal m = 0 := by omega
      rw [h5]
      simp
  · simp only [c, decide_false, Bool.false_eq_true, if_false, Option.bind_some]
    exact M.Ev_some fun k => by simp

end Go.Proofs.Ytgjgbdpfjohaaaa.Pure
