/- The program's DigitsOnPlates and the reference's answer the same for all 64-bit numbers: no further condition. -/
import Derived.Test.YtachnbfdjhpjlaaM
import Derived.Test.YtachnbfdjhpjlaaPFnExactDigitsOnPlatesx1
namespace Go.Proofs.Ytachnbfdjhpjlaa.Pure
open Go.RowKit Go.Proofs.Ytachnbfdjhpjlaa.PFnExactDigitsOnPlates Go.Proofs.YtachnbfdjhpjlaaW.PrintWords Go.Proofs.YtachnbfdjhpjlaaW.PrintLast Go.Proofs.YtachnbfdjhpjlaaW.PrintMore
set_option linter.unusedVariables false
set_option linter.unusedSimpArgs false
theorem spec_l1In_eq (a b c : Int) : spec_l1In.f a b c = some (decide (b ≤ a ∧ a ≤ c)) := by
  unfold spec_l1In.f
  by_cases h : a ≥ b
  · rw [if_pos h]; simp [show b ≤ a from h]
  · rw [if_neg h]; simp [show ¬ b ≤ a from h]
theorem impl_within_eq (a b c : Int) : impl_within.f a b c = some (decide (b ≤ a ∧ a ≤ c)) := by
  unfold impl_within.f
  by_cases h : a ≥ b
  · rw [if_pos h]; simp [show b ≤ a from h]
  · rw [if_neg h]; simp [show ¬ b ≤ a from h]
theorem spec_nuMost_eq (a : Int) : spec_nuMost.f a = some (decide (1 ≤ a ∧ a ≤ 1000000)) := by
  unfold spec_nuMost.f; rw [spec_l1In_eq]; rfl
theorem impl_isMost_eq (a : Int) : impl_isMost.f a = some (decide (1 ≤ a ∧ a ≤ 1000000)) := by
  unfold impl_isMost.f; rw [impl_within_eq]; rfl
theorem spec_l1Num_ev : ∀ (n : Nat), n ≤ 9223372036854775807 → Ev (fun k => spec_l1Num.f k (n : Int)) (strOfNums (M.digs n)) := by
  intro n
  induction n using Nat.strongRecOn with
  | ind n ih =>
    intro hn
    by_cases h : n < 10
    · have e2 : (wrap64 (48 + (n : Int))) % 256 = 48 + (n : Int) := by rw [M.w64 (by omega) (by omega)]; omega
      refine M.Ev_succ (M.Ev_some fun k => ?_)
      simp only [spec_l1Num.f]
      rw [if_pos (by omega), M.digs_small h, e2]
    · have e1 : wrap64 (Int.tdiv (n : Int) 10) = ((n / 10 : Nat) : Int) := by
        rw [M.tdiv_pos (by omega), M.w64 (by omega) (by omega)]; omega
      have e2 : (wrap64 (48 + Int.tmod (n : Int) 10)) % 256 = 48 + ((n % 10 : Nat) : Int) := by
        rw [M.tmod_pos (by omega), M.w64 (by omega) (by omega)]; omega
      refine M.Ev_succ ?_
      simp only [spec_l1Num.f, e1, e2, show ¬ ((n : Int) < 10) by omega, if_false]
      refine Ev.bind (ih (n / 10) (by omega) (by omega)) (M.Ev_some fun k => ?_)
      have hs := M.digs_le20 (n := n / 10) (by omega)
      simp only [Option.bind_some]
      rw [if_pos (by rw [strOfNums_size, strOfNums_size]; simp; omega), M.strOfNums_append, M.digs_big h]
/-- How many digits a number below ten millions has. -/
theorem len_digs (n : Nat) (h0 : 1 ≤ n) (h : n < 10000000) : (((M.digs n).length : Nat) : Int) =
    1 + (if 10 ≤ (n : Int) then 1 else 0) + (if 100 ≤ (n : Int) then 1 else 0) + (if 1000 ≤ (n : Int) then 1 else 0) + (if 10000 ≤ (n : Int) then 1 else 0) + (if 100000 ≤ (n : Int) then 1 else 0) + (if 1000000 ≤ (n : Int) then 1 else 0) := by
  have step : ∀ m : Nat, ¬ m < 10 → (M.digs m).length = (M.digs (m / 10)).length + 1 := fun m hm => by rw [M.digs_big hm]; simp
  have one : ∀ m : Nat, m < 10 → (M.digs m).length = 1 := fun m hm => by rw [M.digs_small hm]; simp
  by_cases c1 : n < 10
  · rw [one n c1]; simp; omega
  rw [step n c1]
  by_cases c2 : n / 10 < 10
  · rw [one _ c2]; repeat' split
    all_goals omega
  rw [step _ c2, Nat.div_div_eq_div_mul]
  by_cases c3 : n / (10 * 10) < 10
  · rw [one _ c3]; repeat' split
    all_goals omega
  rw [step _ c3, Nat.div_div_eq_div_mul]
  by_cases c4 : n / (10 * 10 * 10) < 10
  · rw [one _ c4]; repeat' split
    all_goals omega
  rw [step _ c4, Nat.div_div_eq_div_mul]
  by_cases c5 : n / (10 * 10 * 10 * 10) < 10
  · rw [one _ c5]; repeat' split
    all_goals omega
  rw [step _ c5, Nat.div_div_eq_div_mul]
  by_cases c6 : n / (10 * 10 * 10 * 10 * 10) < 10
  · rw [one _ c6]; repeat' split
    all_goals omega
  rw [step _ c6, Nat.div_div_eq_div_mul, one _ (by omega)]
  repeat' split
  all_goals omega
/-- What one place adds: as many plates as have that place. -/
def G (p m : Int) : Int := if p ≤ m then m - p + 1 else 0
def tot (m : Int) : Int := G 1 m + G 10 m + G 100 m + G 1000 m + G 10000 m + G 100000 m + G 1000000 m
theorem tot_0 : tot 0 = 0 := by simp [tot, G]
theorem G_succ (p m : Int) : G p (m + 1) = G p m + (if p ≤ m + 1 then 1 else 0) := by
  unfold G
  repeat' split
  all_goals omega
theorem tot_succ (n : Nat) (h : n < 1000000) : tot ((n : Int) + 1) = tot n + (((M.digs (n + 1)).length : Nat) : Int) := by
  rw [len_digs (n + 1) (by omega) (by omega)]
  have hc : ((n + 1 : Nat) : Int) = (n : Int) + 1 := by omega
  unfold tot
  rw [hc, G_succ 1, G_succ 10, G_succ 100, G_succ 1000, G_succ 10000, G_succ 100000, G_succ 1000000, if_pos (show 1 ≤ (n : Int) + 1 by omega)]
  generalize (if 10 ≤ (n : Int) + 1 then (1 : Int) else 0) = x1
  generalize (if 100 ≤ (n : Int) + 1 then (1 : Int) else 0) = x2
  generalize (if 1000 ≤ (n : Int) + 1 then (1 : Int) else 0) = x3
  generalize (if 10000 ≤ (n : Int) + 1 then (1 : Int) else 0) = x4
  generalize (if 100000 ≤ (n : Int) + 1 then (1 : Int) else 0) = x5
  generalize (if 1000000 ≤ (n : Int) + 1 then (1 : Int) else 0) = x6
  omega
theorem G_bd (p m : Int) (hp : 1 ≤ p) (h : m ≤ 1000000) : 0 ≤ G p m ∧ G p m ≤ 1000000 := by
  unfold G; split <;> omega
theorem tot_bd (m : Int) (h0 : 0 ≤ m) (h : m ≤ 1000000) : 0 ≤ tot m ∧ tot m ≤ 7000000 := by
  have b1 := G_bd 1 m (by omega) h
  have b2 := G_bd 10 m (by omega) h
  have b3 := G_bd 100 m (by omega) h
  have b4 := G_bd 1000 m (by omega) h
  have b5 := G_bd 10000 m (by omega) h
  have b6 := G_bd 100000 m (by omega) h
  have b7 := G_bd 1000000 m (by omega) h
  unfold tot
  omega
theorem spec_loop (m : Nat) (hm : m ≤ 1000000) : ∀ (d n : Nat), n ≤ m → m - n = d → Ev (fun k => spec_DigitsOnPlates.l0 k (m : Int) (tot n) ((n : Int) + 1)) (tot m, true) := by
  intro d
  induction d with
  | zero =>
    intro n hn hd
    obtain rfl : n = m := by omega
    refine M.Ev_succ (M.Ev_some fun k => ?_)
    simp only [spec_DigitsOnPlates.l0]
    rw [if_neg (by omega)]
  | succ d ih =>
    intro n hn hd
    refine M.Ev_succ ?_
    have hb := tot_bd n (by omega) (by omega)
    have hb2 := tot_bd ((n : Int) + 1) (by omega) (by omega)
    have hs := tot_succ n (by omega)
    simp only [spec_DigitsOnPlates.l0, show ((n : Int) + 1 ≤ (m : Int)) by omega, if_true]
    have e : Ev (fun k => spec_nuLong.f k ((n : Int) + 1)) (((M.digs (n + 1)).length : Nat) : Int) := by
      unfold spec_nuLong.f
      refine Ev.bind (spec_l1Num_ev (n + 1) (by omega)) (M.Ev_some fun k => ?_)
      rw [strOfNums_size]
    refine Ev.bind e ?_
    have := ih (n + 1) (by omega) (by omega)
    rw [← hs, M.w64 (by omega) (by omega), M.w64 (by omega) (by omega)]
    exact this
theorem impl_step (m : Int) (h0 : 1 ≤ m) (h : m ≤ 1000000) (p acc : Int) (hp : 1 ≤ p) (hp2 : p ≤ 1000000) (ha : 0 ≤ acc) (ha2 : acc ≤ 100000000) {r : Int × Bool}
    (H : Ev (fun k => impl_DigitsOnPlates.l0 k m (acc + G p m) (p * 10)) r) (H2 : ¬ p ≤ m → r = (acc, true)) : Ev (fun k => impl_DigitsOnPlates.l0 k m acc p) r := by
  by_cases c : p ≤ m
  · refine M.Ev_succ ?_
    simp only [impl_DigitsOnPlates.l0, c, if_true]
    rw [M.w64 (x := m - p) (by omega) (by omega), M.w64 (x := m - p + 1) (by omega) (by omega), M.w64 (x := acc + (m - p + 1)) (by omega) (by omega), M.w64 (x := p * 10) (by omega) (by omega)]
    have e : G p m = m - p + 1 := by unfold G; rw [if_pos c]
    rw [e] at H
    exact H
  · refine M.Ev_succ (M.Ev_some fun k => ?_)
    simp only [impl_DigitsOnPlates.l0]
    rw [if_neg c, H2 c]
theorem G_no (p m : Int) (h : ¬ p ≤ m) : G p m = 0 := by unfold G; rw [if_neg h]
theorem impl_loop (m : Int) (h0 : 1 ≤ m) (h : m ≤ 1000000) : Ev (fun k => impl_DigitsOnPlates.l0 k m 0 1) (tot m, true) := by
  have b1 := G_bd 1 m (by omega) h
  have b2 := G_bd 10 m (by omega) h
  have b3 := G_bd 100 m (by omega) h
  have b4 := G_bd 1000 m (by omega) h
  have b5 := G_bd 10000 m (by omega) h
  have b6 := G_bd 100000 m (by omega) h
  have b7 := G_bd 1000000 m (by omega) h
  have fin : ∀ (acc p : Int), acc = tot m → m < p → Ev (fun k => impl_DigitsOnPlates.l0 k m acc p) (tot m, true) := by
    intro acc p ha hp
    refine M.Ev_succ (M.Ev_some fun k => ?_)
    simp only [impl_DigitsOnPlates.l0]
    rw [if_neg (by omega), ha]
  have close : ∀ (acc p : Int), (¬ p ≤ m → acc = tot m) → ¬ p ≤ m → ((tot m, true) : Int × Bool) = (acc, true) := fun acc p hh hc => by rw [hh hc]
  refine impl_step m h0 h 1 0 (by omega) (by omega) (by omega) (by omega) ?_ (close _ _ fun c => by omega)
  refine impl_step m h0 h 10 _ (by omega) (by omega) (by omega) (by omega) ?_ (close _ _ fun c => ?_)
  rotate_left
  · unfold tot; rw [G_no 10 m (by omega), G_no 100 m (by omega), G_no 1000 m (by omega), G_no 10000 m (by omega), G_no 100000 m (by omega), G_no 1000000 m (by omega)]; omega
  refine impl_step m h0 h 100 _ (by omega) (by omega) (by omega) (by omega) ?_ (close _ _ fun c => ?_)
  rotate_left
  · unfold tot; rw [G_no 100 m (by omega), G_no 1000 m (by omega), G_no 10000 m (by omega), G_no 100000 m (by omega), G_no 1000000 m (by omega)]; omega
  refine impl_step m h0 h 1000 _ (by omega) (by omega) (by omega) (by omega) ?_ (close _ _ fun c => ?_)
  rotate_left
  · unfold tot; rw [G_no 1000 m (by omega), G_no 10000 m (by omega), G_no 100000 m (by omega), G_no 1000000 m (by omega)]; omega
  refine impl_step m h0 h 10000 _ (by omega) (by omega) (by omega) (by omega) ?_ (close _ _ fun c => ?_)
  rotate_left
  · unfold tot; rw [G_no 10000 m (by omega), G_no 100000 m (by omega), G_no 1000000 m (by omega)]; omega
  refine impl_step m h0 h 100000 _ (by omega) (by omega) (by omega) (by omega) ?_ (close _ _ fun c => ?_)
  rotate_left
  · unfold tot; rw [G_no 100000 m (by omega), G_no 1000000 m (by omega)]; omega
  refine impl_step m h0 h 1000000 _ (by omega) (by omega) (by omega) (by omega) ?_ (close _ _ fun c => ?_)
  rotate_left
  · unfold tot; rw [G_no 1000000 m (by omega)]; omega
  refine fin _ _ ?_ (by omega)
  unfold tot
  simp
theorem both (a : Int) : ∃ r, Ev (fun k => spec_DigitsOnPlates.f k a) r ∧ Ev (fun k => impl_DigitsOnPlates.f k a) r := by
  by_cases c : 1 ≤ a ∧ a ≤ 1000000
  · refine ⟨(tot a, true), ?_, ?_⟩
    · unfold spec_DigitsOnPlates.f
      simp only [spec_nuMost_eq, Option.bind_some, c, decide_true, if_true, and_self]
      obtain ⟨m, rfl⟩ := Int.eq_ofNat_of_zero_le (show 0 ≤ a by omega)
      have := spec_loop m (by omega) m 0 (by omega) (by omega)
      simpa [tot_0] using this
    · unfold impl_DigitsOnPlates.f
      simp only [impl_isMost_eq, Option.bind_some, c, decide_true, if_true, and_self]
      exact impl_loop a c.1 c.2
  · refine ⟨(0, false), ?_, ?_⟩
    · unfold spec_DigitsOnPlates.f
      simp only [spec_nuMost_eq, Option.bind_some, c, decide_false]
      exact M.Ev_some fun k => by simp
    · unfold impl_DigitsOnPlates.f
      simp only [impl_isMost_eq, Option.bind_some, c, decide_false]
      exact M.Ev_some fun k => by simp
theorem FnExactDigitsOnPlates : laws_FnExactDigitsOnPlates.Pure := by
  intro a _
  obtain ⟨r, h1, h2⟩ := both a
  refine Ev.rounds (r := true) ?_
  unfold laws_FnExactDigitsOnPlates.f
  exact Ev.bind h1 (Ev.bind h2 (M.Ev_some fun k => by simp))

end Go.Proofs.Ytachnbfdjhpjlaa.Pure
