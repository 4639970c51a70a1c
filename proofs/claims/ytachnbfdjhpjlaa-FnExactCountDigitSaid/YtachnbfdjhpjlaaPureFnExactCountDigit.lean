/- The program's CountDigit and the reference's answer the same for all 64-bit numbers: no further condition. -/
import Derived.Test.YtachnbfdjhpjlaaM
import Derived.Test.YtachnbfdjhpjlaaPFnExactCountDigitx1
namespace Go.Proofs.Ytachnbfdjhpjlaa.Pure
open Go.RowKit Go.Proofs.Ytachnbfdjhpjlaa.PFnExactCountDigit Go.Proofs.YtachnbfdjhpjlaaW.PrintWords Go.Proofs.YtachnbfdjhpjlaaW.PrintLast Go.Proofs.YtachnbfdjhpjlaaW.PrintMore
set_option linter.unusedVariables false
set_option linter.unusedSimpArgs false
theorem spec_l1In_eq (a b c : Int) : spec_l1In.f a b c = some (decide (b ≤ a ∧ a ≤ c)) := by
  unfold spec_l1In.f
  by_cases h : a ≥ b
  · rw [if_pos h]; simp [show b ≤ a from h]
  · rw [if_neg h]; simp [show ¬ b ≤ a from h]
theorem impl_within_eq (a b c : Int) : impl_within.f a b c = some (decide (b ≤ a ∧ a ≤ c)) := by
  unfold impl_within.f
  by_cases h : a ≥ b
  · rw [if_pos h]; simp [show b ≤ a from h]
  · rw [if_neg h]; simp [show ¬ b ≤ a from h]
theorem spec_nuMost_eq (a : Int) : spec_nuMost.f a = some (decide (1 ≤ a ∧ a ≤ 1000000)) := by
  unfold spec_nuMost.f; rw [spec_l1In_eq]; rfl
theorem impl_isMost_eq (a : Int) : impl_isMost.f a = some (decide (1 ≤ a ∧ a ≤ 1000000)) := by
  unfold impl_isMost.f; rw [impl_within_eq]; rfl
/-- How often a digit is on the plate n. -/
def cd (d : Int) (n : Nat) : Int := if h : n = 0 then 0 else (if ((n % 10 : Nat) : Int) = d then 1 else 0) + cd d (n / 10)
decreasing_by omega
def c1 (d : Int) (n : Nat) : Int := if n = 0 then 0 else if ((n % 10 : Nat) : Int) = d then 1 else 0
theorem cd_zero (d : Int) : cd d 0 = 0 := by rw [cd]; simp
theorem cd_step (d : Int) (n : Nat) : cd d n = c1 d n + cd d (n / 10) := by
  rw [cd]
  unfold c1
  by_cases h : n = 0
  · subst h; simp [cd_zero]
  · simp [h]
theorem c1_bd (d : Int) (n : Nat) : 0 ≤ c1 d n ∧ c1 d n ≤ 1 := by
  unfold c1
  repeat' split
  all_goals omega
theorem cd_sum (d : Int) (n : Nat) (h : n < 10000000) : cd d n = c1 d n + c1 d (n / 10) + c1 d (n / 100) + c1 d (n / 1000) + c1 d (n / 10000) + c1 d (n / 100000) + c1 d (n / 1000000) := by
  rw [cd_step, cd_step d (n / 10), cd_step d (n / 10 / 10), cd_step d (n / 10 / 10 / 10), cd_step d (n / 10 / 10 / 10 / 10), cd_step d (n / 10 / 10 / 10 / 10 / 10), cd_step d (n / 10 / 10 / 10 / 10 / 10 / 10)]
  simp only [Nat.div_div_eq_div_mul]
  rw [show n / (10 * 10 * 10 * 10 * 10 * 10 * 10) = 0 by omega, cd_zero]
  simp only [show 10 * 10 = 100 by rfl, show 100 * 10 = 1000 by rfl, show 1000 * 10 = 10000 by rfl, show 10000 * 10 = 100000 by rfl, show 100000 * 10 = 1000000 by rfl]
  omega
theorem cd_bd (d : Int) (n : Nat) (h : n < 10000000) : 0 ≤ cd d n ∧ cd d n ≤ 7 := by
  rw [cd_sum d n h]
  have h1 := c1_bd d n
  have h2 := c1_bd d (n / 10)
  have h3 := c1_bd d (n / 100)
  have h4 := c1_bd d (n / 1000)
  have h5 := c1_bd d (n / 10000)
  have h6 := c1_bd d (n / 100000)
  have h7 := c1_bd d (n / 1000000)
  omega
def tot (d : Int) : Nat → Int
  | 0 => 0
  | n + 1 => tot d n + cd d (n + 1)
theorem tot_bd (d : Int) : ∀ n, n ≤ 1000000 → 0 ≤ tot d n ∧ tot d n ≤ 7 * n
  | 0, _ => by simp [tot]
  | n + 1, h => by
    have := tot_bd d n (by omega)
    have := cd_bd d (n + 1) (by omega)
    simp only [tot]
    omega
/-- What one place adds. -/
def F (p d m : Int) : Int := if p ≤ m then (m / (10 * p) - (if d = 0 then 1 else 0)) * p + (if m / p % 10 > d then p else if m / p % 10 = d then m % p + 1 else 0) else 0
theorem F_zero (p d : Int) (h : 1 ≤ p) : F p d 0 = 0 := by unfold F; rw [if_neg (by omega)]
theorem F_no (p d m : Int) (h : ¬ p ≤ m) : F p d m = 0 := by unfold F; rw [if_neg h]
def g1 (p d m : Int) : Int := if p ≤ m then (if m / p % 10 = d then 1 else 0) else 0
theorem F_succ_1 (d m : Int) (h : 0 ≤ m) (hd : 0 ≤ d) (hd9 : d ≤ 9) : F 1 d (m + 1) = F 1 d m + g1 1 d (m + 1) := by
  unfold F g1; by_cases hd0 : d = 0 <;> simp only [hd0, if_true, if_false] <;> repeat' split
  all_goals omega
theorem F_succ_10 (d m : Int) (h : 0 ≤ m) (hd : 0 ≤ d) (hd9 : d ≤ 9) : F 10 d (m + 1) = F 10 d m + g1 10 d (m + 1) := by
  unfold F g1; by_cases hd0 : d = 0 <;> simp only [hd0, if_true, if_false] <;> repeat' split
  all_goals omega
theorem F_succ_100 (d m : Int) (h : 0 ≤ m) (hd : 0 ≤ d) (hd9 : d ≤ 9) : F 100 d (m + 1) = F 100 d m + g1 100 d (m + 1) := by
  unfold F g1; by_cases hd0 : d = 0 <;> simp only [hd0, if_true, if_false] <;> repeat' split
  all_goals omega
theorem F_succ_1000 (d m : Int) (h : 0 ≤ m) (hd : 0 ≤ d) (hd9 : d ≤ 9) : F 1000 d (m + 1) = F 1000 d m + g1 1000 d (m + 1) := by
  unfold F g1; by_cases hd0 : d = 0 <;> simp only [hd0, if_true, if_false] <;> repeat' split
  all_goals omega
theorem F_succ_10000 (d m : Int) (h : 0 ≤ m) (hd : 0 ≤ d) (hd9 : d ≤ 9) : F 10000 d (m + 1) = F 10000 d m + g1 10000 d (m + 1) := by
  unfold F g1; by_cases hd0 : d = 0 <;> simp only [hd0, if_true, if_false] <;> repeat' split
  all_goals omega
theorem F_succ_100000 (d m : Int) (h : 0 ≤ m) (hd : 0 ≤ d) (hd9 : d ≤ 9) : F 100000 d (m + 1) = F 100000 d m + g1 100000 d (m + 1) := by
  unfold F g1; by_cases hd0 : d = 0 <;> simp only [hd0, if_true, if_false] <;> repeat' split
  all_goals omega
theorem F_succ_1000000 (d m : Int) (h : 0 ≤ m) (hd : 0 ≤ d) (hd9 : d ≤ 9) : F 1000000 d (m + 1) = F 1000000 d m + g1 1000000 d (m + 1) := by
  unfold F g1; by_cases hd0 : d = 0 <;> simp only [hd0, if_true, if_false] <;> repeat' split
  all_goals omega
theorem g1_c1 (p : Nat) (d : Int) (n : Nat) (hp : 1 ≤ p) : g1 (p : Int) d (n : Int) = c1 d (n / p) := by
  unfold g1 c1
  by_cases h : p ≤ n
  · have h1 : n / p ≠ 0 := by
      have : 0 < n / p := Nat.div_pos h (by omega)
      omega
    have e : ((n : Int) / (p : Int) % 10) = ((n / p % 10 : Nat) : Int) := by push_cast; rfl
    rw [if_pos (by omega), if_neg h1, e]
  · rw [if_neg (by omega), Nat.div_eq_of_lt (by omega), if_pos rfl]
def S (d m : Int) : Int := F 1 d m + F 10 d m + F 100 d m + F 1000 d m + F 10000 d m + F 100000 d m + F 1000000 d m
theorem S_tot (d : Int) (hd : 0 ≤ d) (hd9 : d ≤ 9) : ∀ n : Nat, n ≤ 1000000 → S d (n : Int) = tot d n
  | 0, _ => by
    have z : ((0 : Nat) : Int) = 0 := rfl
    simp only [tot, S, z]
    rw [F_zero 1 d (by omega), F_zero 10 d (by omega), F_zero 100 d (by omega), F_zero 1000 d (by omega), F_zero 10000 d (by omega), F_zero 100000 d (by omega), F_zero 1000000 d (by omega)]; rfl
  | n + 1, h => by
    have ih := S_tot d hd hd9 n (by omega)
    simp only [tot]
    rw [← ih, cd_sum d (n + 1) (by omega)]
    have e1 := g1_c1 1 d (n + 1) (by omega)
    have e2 := g1_c1 10 d (n + 1) (by omega)
    have e3 := g1_c1 100 d (n + 1) (by omega)
    have e4 := g1_c1 1000 d (n + 1) (by omega)
    have e5 := g1_c1 10000 d (n + 1) (by omega)
    have e6 := g1_c1 100000 d (n + 1) (by omega)
    have e7 := g1_c1 1000000 d (n + 1) (by omega)
    rw [Nat.div_one] at e1
    rw [← e1, ← e2, ← e3, ← e4, ← e5, ← e6, ← e7]
    unfold S
    have cst : ((n + 1 : Nat) : Int) = (n : Int) + 1 := by omega
    rw [cst, F_succ_1 d n (by omega) hd hd9, F_succ_10 d n (by omega) hd hd9, F_succ_100 d n (by omega) hd hd9, F_succ_1000 d n (by omega) hd hd9, F_succ_10000 d n (by omega) hd hd9, F_succ_100000 d n (by omega) hd hd9, F_succ_1000000 d n (by omega) hd hd9]
    have q1 : ((1 : Nat) : Int) = 1 := rfl
    have q2 : ((10 : Nat) : Int) = 10 := rfl
    have q3 : ((100 : Nat) : Int) = 100 := rfl
    have q4 : ((1000 : Nat) : Int) = 1000 := rfl
    have q5 : ((10000 : Nat) : Int) = 10000 := rfl
    have q6 : ((100000 : Nat) : Int) = 100000 := rfl
    have q7 : ((1000000 : Nat) : Int) = 1000000 := rfl
    rw [q1, q2, q3, q4, q5, q6, q7]
    omega
/-! ### the reference's loops -/
theorem spec_in (m d : Int) : ∀ (n : Nat), n < 10000000 → ∀ (acc i : Int), 0 ≤ acc → acc + n ≤ 2000000000 → ∀ r, Ev (fun k => spec_CountDigit.l0 k m d (acc + cd d n) (wrap64 (i + 1))) r → Ev (fun k => spec_CountDigit.l1 k m d acc i (n : Int)) r := by
  intro n
  induction n using Nat.strongRecOn with
  | ind n ih =>
    intro hn acc i h0 h1 r hr
    refine M.Ev_succ ?_
    by_cases hz : n = 0
    · subst hz
      rw [cd_zero, Int.add_zero] at hr
      simp only [spec_CountDigit.l1, show ¬ (((0 : Nat) : Int) > 0) by omega, if_false]
      exact hr
    · have e1 : wrap64 (Int.tdiv (n : Int) 10) = ((n / 10 : Nat) : Int) := by
        rw [M.tdiv_pos (by omega), M.w64 (by omega) (by omega)]; omega
      have e2 : Int.tmod (n : Int) 10 = ((n % 10 : Nat) : Int) := by
        rw [M.tmod_pos (by omega)]; omega
      simp only [spec_CountDigit.l1, show ((n : Int) > 0) by omega, if_true, e1, e2]
      rw [cd] at hr
      simp only [hz, dite_false] at hr
      by_cases hc : ((n % 10 : Nat) : Int) = d
      · simp only [hc, if_true] at hr ⊢
        rw [M.w64 (by omega) (by omega)]
        refine ih (n / 10) (by omega) (by omega) _ i (by omega) (by omega) r ?_
        rw [Int.add_assoc]; exact hr
        done
      · simp only [hc, if_false, Int.zero_add] at hr ⊢
        exact ih (n / 10) (by omega) (by omega) _ i (by omega) (by omega) r hr
theorem spec_out (m : Nat) (hm : m ≤ 1000000) (d : Int) : ∀ (j n : Nat), n ≤ m → m - n = j → Ev (fun k => spec_CountDigit.l0 k (m : Int) d (tot d n) ((n : Int) + 1)) (tot d m, true) := by
  intro j
  induction j with
  | zero =>
    intro n hn hd
    obtain rfl : n = m := by omega
    refine M.Ev_succ (M.Ev_some fun k => ?_)
    simp only [spec_CountDigit.l0]
    rw [if_neg (by omega)]
  | succ j ih =>
    intro n hn hd
    refine M.Ev_succ ?_
    have hb := tot_bd d n (by omega)
    simp only [spec_CountDigit.l0, show ((n : Int) + 1 ≤ (m : Int)) by omega, if_true]
    refine spec_in m d (n + 1) (by omega) _ _ (by omega) (by omega) _ ?_
    have := ih (n + 1) (by omega) (by omega)
    rw [M.w64 (by omega) (by omega)]
    exact this
/-! ### the program's loop -/
theorem bd (p m : Int) (hp : 1 ≤ p) (h0 : 1 ≤ m) (h : m ≤ 1000000) : 0 ≤ m / (10 * p) * p ∧ m / (10 * p) * p ≤ m := by
  have h1 : 0 ≤ m / (10 * p) := Int.ediv_nonneg (by omega) (by omega)
  have h2 : m / (10 * p) * (10 * p) ≤ m := Int.ediv_mul_le m (by omega)
  have h3 : m / (10 * p) * (10 * p) = 10 * (m / (10 * p) * p) := by rw [Int.mul_left_comm]
  have h4 : 0 ≤ m / (10 * p) * p := Int.mul_nonneg h1 (by omega)
  omega
theorem F_bd (p d m : Int) (hp : 1 ≤ p) (hp2 : p ≤ 1000000) (h0 : 1 ≤ m) (h : m ≤ 1000000) : -1000000 ≤ F p d m ∧ F p d m ≤ 3000001 := by
  have hb := bd p m hp h0 h
  have hm : 0 ≤ m % p := Int.emod_nonneg _ (by omega)
  have hm2 : m % p < p := Int.emod_lt_of_pos _ (by omega)
  unfold F
  by_cases c : d = 0
  · rw [if_pos c, Int.sub_mul, Int.one_mul]
    repeat' split
    all_goals omega
  · rw [if_neg c, Int.sub_zero]
    repeat' split
    all_goals omega
theorem impl_step (m d : Int) (h0 : 1 ≤ m) (h : m ≤ 1000000) (p acc : Int) (hp : 1 ≤ p) (hp2 : p ≤ 1000000) (ha : -100000000 ≤ acc) (ha2 : acc ≤ 100000000) {r : Int × Bool}
    (H : Ev (fun k => impl_CountDigit.l0 k m d (acc + F p d m) (p * 10)) r) (H2 : ¬ p ≤ m → r = (acc, true)) : Ev (fun k => impl_CountDigit.l0 k m d acc p) r := by
  by_cases c : p ≤ m
  · have hb := bd p m hp h0 h
    have hm : 0 ≤ m % p := Int.emod_nonneg _ (by omega)
    have hm2 : m % p < p := Int.emod_lt_of_pos _ (by omega)
    have hq : 0 ≤ m / p := Int.ediv_nonneg (by omega) (by omega)
    have hq2 : m / p ≤ m := Int.ediv_le_self _ (by omega)
    have hr : 0 ≤ m / (10 * p) := Int.ediv_nonneg (by omega) (by omega)
    have hr2 : m / (10 * p) ≤ m := Int.ediv_le_self _ (by omega)
    have e1 : wrap64 (10 * p) = 10 * p := M.w64 (by omega) (by omega)
    have e2 : wrap64 (p * 10) = p * 10 := M.w64 (by omega) (by omega)
    have e3 : wrap64 (Int.tdiv m (10 * p)) = m / (10 * p) := by rw [M.tdiv_pos (by omega), M.w64 (by omega) (by omega)]
    have e4 : wrap64 (Int.tdiv m p) = m / p := by rw [M.tdiv_pos (by omega), M.w64 (by omega) (by omega)]
    have e5 : Int.tmod (m / p) 10 = m / p % 10 := M.tmod_pos hq
    have e6 : Int.tmod m p = m % p := M.tmod_pos (by omega)
    have e7 : wrap64 (m / (10 * p) - 1) = m / (10 * p) - 1 := M.w64 (by omega) (by omega)
    refine M.Ev_succ ?_
    simp only [impl_CountDigit.l0, c, if_true, e1, e3, e4, e5, e6, e7, show ¬ (10 * p = 0) by omega, show ¬ (p = 0) by omega, if_false]
    by_cases cd0 : d = 0
    · simp only [cd0, if_true]
      refine M.Ev_succ ?_
      have e8 : wrap64 ((m / (10 * p) - 1) * p) = (m / (10 * p) - 1) * p := by rw [Int.sub_mul]; exact M.w64 (by omega) (by omega)
      have e9 : wrap64 (acc + (m / (10 * p) - 1) * p) = acc + (m / (10 * p) - 1) * p := by rw [Int.sub_mul]; exact M.w64 (by omega) (by omega)
      simp only [impl_CountDigit.j2, e2, e8, e9]
      unfold F at H
      rw [if_pos c, if_pos cd0, ← Int.add_assoc] at H
      rw [cd0] at H
      by_cases c1 : m / p % 10 > 0
      · simp only [c1, if_true] at H ⊢
        rw [M.w64 (by rw [Int.sub_mul]; omega) (by rw [Int.sub_mul]; omega)]; exact H
      · simp only [c1, if_false] at H ⊢
        by_cases c2 : m / p % 10 = 0
        · simp only [c2, if_true] at H ⊢
          rw [M.w64 (x := m % p + 1) (by omega) (by omega), M.w64 (by rw [Int.sub_mul]; omega) (by rw [Int.sub_mul]; omega)]; exact H
        · simp only [c2, if_false, Int.add_zero] at H ⊢; exact H
    · simp only [cd0, if_false]
      refine M.Ev_succ ?_
      have e8 : wrap64 (m / (10 * p) * p) = m / (10 * p) * p := M.w64 (by omega) (by omega)
      have e9 : wrap64 (acc + m / (10 * p) * p) = acc + m / (10 * p) * p := M.w64 (by omega) (by omega)
      simp only [impl_CountDigit.j2, e2, e8, e9]
      unfold F at H
      rw [if_pos c, if_neg cd0, ← Int.add_assoc, Int.sub_zero] at H
      by_cases c1 : m / p % 10 > d
      · simp only [c1, if_true] at H ⊢
        rw [M.w64 (by omega) (by omega)]; exact H
      · simp only [c1, if_false] at H ⊢
        by_cases c2 : m / p % 10 = d
        · simp only [c2, if_true] at H ⊢
          rw [M.w64 (x := m % p + 1) (by omega) (by omega), M.w64 (by omega) (by omega)]; exact H
        · simp only [c2, if_false, Int.add_zero] at H ⊢; exact H
  · refine M.Ev_succ (M.Ev_some fun k => ?_)
    simp only [impl_CountDigit.l0]
    rw [if_neg c, H2 c]
theorem impl_loop (m d : Int) (h0 : 1 ≤ m) (h : m ≤ 1000000) : Ev (fun k => impl_CountDigit.l0 k m d 0 1) (S d m, true) := by
  have b1 := F_bd 1 d m (by omega) (by omega) h0 h
  have b2 := F_bd 10 d m (by omega) (by omega) h0 h
  have b3 := F_bd 100 d m (by omega) (by omega) h0 h
  have b4 := F_bd 1000 d m (by omega) (by omega) h0 h
  have b5 := F_bd 10000 d m (by omega) (by omega) h0 h
  have b6 := F_bd 100000 d m (by omega) (by omega) h0 h
  have b7 := F_bd 1000000 d m (by omega) (by omega) h0 h
  have close : ∀ (acc p : Int), (¬ p ≤ m → acc = S d m) → ¬ p ≤ m → ((S d m, true) : Int × Bool) = (acc, true) := fun acc p hh hc => by rw [hh hc]
  refine impl_step m d h0 h 1 0 (by omega) (by omega) (by omega) (by omega) ?_ (close _ _ fun c => by omega)
  refine impl_step m d h0 h 10 _ (by omega) (by omega) (by omega) (by omega) ?_ (close _ _ fun c => ?_)
  rotate_left
  · unfold S; rw [F_no 10 d m (by omega), F_no 100 d m (by omega), F_no 1000 d m (by omega), F_no 10000 d m (by omega), F_no 100000 d m (by omega), F_no 1000000 d m (by omega)]; omega
  refine impl_step m d h0 h 100 _ (by omega) (by omega) (by omega) (by omega) ?_ (close _ _ fun c => ?_)
  rotate_left
  · unfold S; rw [F_no 100 d m (by omega), F_no 1000 d m (by omega), F_no 10000 d m (by omega), F_no 100000 d m (by omega), F_no 1000000 d m (by omega)]; omega
  refine impl_step m d h0 h 1000 _ (by omega) (by omega) (by omega) (by omega) ?_ (close _ _ fun c => ?_)
  rotate_left
  · unfold S; rw [F_no 1000 d m (by omega), F_no 10000 d m (by omega), F_no 100000 d m (by omega), F_no 1000000 d m (by omega)]; omega
  refine impl_step m d h0 h 10000 _ (by omega) (by omega) (by omega) (by omega) ?_ (close _ _ fun c => ?_)
  rotate_left
  · unfold S; rw [F_no 10000 d m (by omega), F_no 100000 d m (by omega), F_no 1000000 d m (by omega)]; omega
  refine impl_step m d h0 h 100000 _ (by omega) (by omega) (by omega) (by omega) ?_ (close _ _ fun c => ?_)
  rotate_left
  · unfold S; rw [F_no 100000 d m (by omega), F_no 1000000 d m (by omega)]; omega
  refine impl_step m d h0 h 1000000 _ (by omega) (by omega) (by omega) (by omega) ?_ (close _ _ fun c => ?_)
  rotate_left
  · unfold S; rw [F_no 1000000 d m (by omega)]; omega
  refine M.Ev_succ (M.Ev_some fun k => ?_)
  simp only [impl_CountDigit.l0]
  rw [if_neg (by omega)]
  unfold S
  simp
theorem both (a b : Int) : ∃ r, Ev (fun k => spec_CountDigit.f k a b) r ∧ Ev (fun k => impl_CountDigit.f k a b) r := by
  by_cases c : 1 ≤ a ∧ a ≤ 1000000
  · by_cases c2 : 0 ≤ b ∧ b ≤ 9
    · refine ⟨(S b a, true), ?_, ?_⟩
      · unfold spec_CountDigit.f
        simp only [spec_nuMost_eq, spec_l1In_eq, Option.bind_some, c, c2, decide_true, if_true, and_self, Bool.not_true]
        refine M.Ev_succ ?_
        simp only [spec_CountDigit.j0, show ¬ (false = true) by decide, if_false]
        obtain ⟨m, rfl⟩ := Int.eq_ofNat_of_zero_le (show 0 ≤ a by omega)
        rw [S_tot b c2.1 c2.2 m (by omega)]
        exact spec_out m (by omega) b m 0 (by omega) (by omega)
      · unfold impl_CountDigit.f
        simp only [impl_isMost_eq, impl_within_eq, Option.bind_some, c, c2, decide_true, if_true, and_self, Bool.not_true]
        refine M.Ev_succ ?_
        simp only [impl_CountDigit.j0, show ¬ (false = true) by decide, if_false]
        exact impl_loop a b c.1 c.2
    · refine ⟨(0, false), ?_, ?_⟩
      · unfold spec_CountDigit.f
        simp only [spec_nuMost_eq, spec_l1In_eq, Option.bind_some, c, c2, decide_true, decide_false, if_true, and_self, Bool.not_false]
        exact M.Ev_succ (M.Ev_some fun k => by simp [spec_CountDigit.j0])
      · unfold impl_CountDigit.f
        simp only [impl_isMost_eq, impl_within_eq, Option.bind_some, c, c2, decide_true, decide_false, if_true, and_self, Bool.not_false]
        exact M.Ev_succ (M.Ev_some fun k => by simp [impl_CountDigit.j0])
  · refine ⟨(0, false), ?_, ?_⟩
    · unfold spec_CountDigit.f
      simp only [spec_nuMost_eq, Option.bind_some, c, decide_false, show ¬ (false = true) by decide, if_false]
      exact M.Ev_succ (M.Ev_some fun k => by simp [spec_CountDigit.j0])
    · unfold impl_CountDigit.f
      simp only [impl_isMost_eq, Option.bind_some, c, decide_false, show ¬ (false = true) by decide, if_false]
      exact M.Ev_succ (M.Ev_some fun k => by simp [impl_CountDigit.j0])
theorem FnExactCountDigit : laws_FnExactCountDigit.Pure := by
  intro a b _ _
  obtain ⟨r, h1, h2⟩ := both a b
  refine Ev.rounds (r := true) ?_
  unfold laws_FnExactCountDigit.f
  exact Ev.bind h1 (Ev.bind h2 (M.Ev_some fun k => by simp))

end Go.Proofs.Ytachnbfdjhpjlaa.Pure
