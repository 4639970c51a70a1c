/- FnPlatesMade holds for all bytes: whatever is drawn, the program and the reference answer alike, digits are those of all plates, balanced houses have as much on both sides, and ranges have their sum. -/
import Derived.Test.YtihmjhchiomgbaaDoorM
import Derived.Test.YtihmjhchiomgbaaDoorGFnPlatesMade
import Derived.Laws.Bits64b
namespace Go.Proofs.YtihmjhchiomgbaaDoor.Pure
open Go.RowKit Go.Proofs.YtihmjhchiomgbaaDoor.PFnPlatesMade Go.Proofs.YtihmjhchiomgbaaDoorW.PrintWords Go.Proofs.YtihmjhchiomgbaaDoorW.PrintLast Go.Proofs.YtihmjhchiomgbaaDoorW.PrintMore
set_option linter.unusedVariables false
set_option linter.unusedSimpArgs false
theorem spec_l1In_eq (a b c : Int) : spec_l1In.f a b c = some (decide (b ≤ a ∧ a ≤ c)) := by
  unfold spec_l1In.f
  by_cases h : a ≥ b
  · rw [if_pos h]; simp [show b ≤ a from h]
  · rw [if_neg h]; simp [show ¬ b ≤ a from h]
theorem impl_within_eq (a b c : Int) : impl_within.f a b c = some (decide (b ≤ a ∧ a ≤ c)) := by
  unfold impl_within.f
  by_cases h : a ≥ b
  · rw [if_pos h]; simp [show b ≤ a from h]
  · rw [if_neg h]; simp [show ¬ b ≤ a from h]
theorem spec_nuMost_eq (a : Int) : spec_nuMost.f a = some (decide (1 ≤ a ∧ a ≤ 1000000)) := by
  unfold spec_nuMost.f; rw [spec_l1In_eq]; rfl
theorem impl_isMost_eq (a : Int) : impl_isMost.f a = some (decide (1 ≤ a ∧ a ≤ 1000000)) := by
  unfold impl_isMost.f; rw [impl_within_eq]; rfl
theorem spec_l1Num_ev : ∀ (n : Nat), n ≤ 9223372036854775807 → Ev (fun k => spec_l1Num.f k (n : Int)) (strOfNums (M.digs n)) := by
  intro n
  induction n using Nat.strongRecOn with
  | ind n ih =>
    intro hn
    by_cases h : n < 10
    · have e2 : (wrap64 (48 + (n : Int))) % 256 = 48 + (n : Int) := by rw [M.w64 (by omega) (by omega)]; omega
      refine M.Ev_succ (M.Ev_some fun k => ?_)
      simp only [spec_l1Num.f]
      rw [if_pos (by omega), M.digs_small h, e2]
    · have e1 : wrap64 (Int.tdiv (n : Int) 10) = ((n / 10 : Nat) : Int) := by
        rw [M.tdiv_pos (by omega), M.w64 (by omega) (by omega)]; omega
      have e2 : (wrap64 (48 + Int.tmod (n : Int) 10)) % 256 = 48 + ((n % 10 : Nat) : Int) := by
        rw [M.tmod_pos (by omega), M.w64 (by omega) (by omega)]; omega
      refine M.Ev_succ ?_
      simp only [spec_l1Num.f, e1, e2, show ¬ ((n : Int) < 10) by omega, if_false]
      refine Ev.bind (ih (n / 10) (by omega) (by omega)) (M.Ev_some fun k => ?_)
      have hs := M.digs_le20 (n := n / 10) (by omega)
      simp only [Option.bind_some]
      rw [if_pos (by rw [strOfNums_size, strOfNums_size]; simp; omega), M.strOfNums_append, M.digs_big h]
theorem decDigits_eq : ∀ (n : Nat), Lib.decDigits n = (M.digs n).map (fun z => UInt8.ofNat z.toNat) := by
  intro n
  induction n using Nat.strongRecOn with
  | ind n ih =>
    by_cases h : n < 10
    · rw [Lib.decDigits, dif_pos h, M.digs_small h]
      simp only [List.map_cons, List.map_nil]
      rw [show (48 + (n : Int)).toNat = 48 + n by omega]
    · rw [Lib.decDigits, dif_neg h, M.digs_big h, ih (n / 10) (by omega)]
      simp only [List.map_append, List.map_cons, List.map_nil]
      rw [show (48 + ((n % 10 : Nat) : Int)).toNat = 48 + n % 10 by omega]
theorem itoa_eq (n : Nat) (h : n ≤ 9223372036854775807) : strconv_Itoa_35.f (n : Int) = some (strOfNums (M.digs n)) := by
  unfold strconv_Itoa_35.f strOfNums Lib.itoa
  rw [if_pos ⟨by omega, by omega⟩, if_neg (by omega), Int.toNat_natCast, decDigits_eq]
namespace CD
/-- How often a digit is on the plate n. -/
def cd (d : Int) (n : Nat) : Int := if h : n = 0 then 0 else (if ((n % 10 : Nat) : Int) = d then 1 else 0) + cd d (n / 10)
decreasing_by omega
def c1 (d : Int) (n : Nat) : Int := if n = 0 then 0 else if ((n % 10 : Nat) : Int) = d then 1 else 0
theorem cd_zero (d : Int) : cd d 0 = 0 := by rw [cd]; simp
theorem cd_step (d : Int) (n : Nat) : cd d n = c1 d n + cd d (n / 10) := by
  rw [cd]
  unfold c1
  by_cases h : n = 0
  · subst h; simp [cd_zero]
  · simp [h]
theorem c1_bd (d : Int) (n : Nat) : 0 ≤ c1 d n ∧ c1 d n ≤ 1 := by
  unfold c1
  repeat' split
  all_goals omega
theorem cd_sum (d : Int) (n : Nat) (h : n < 10000000) : cd d n = c1 d n + c1 d (n / 10) + c1 d (n / 100) + c1 d (n / 1000) + c1 d (n / 10000) + c1 d (n / 100000) + c1 d (n / 1000000) := by
  rw [cd_step, cd_step d (n / 10), cd_step d (n / 10 / 10), cd_step d (n / 10 / 10 / 10), cd_step d (n / 10 / 10 / 10 / 10), cd_step d (n / 10 / 10 / 10 / 10 / 10), cd_step d (n / 10 / 10 / 10 / 10 / 10 / 10)]
  simp only [Nat.div_div_eq_div_mul]
  rw [show n / (10 * 10 * 10 * 10 * 10 * 10 * 10) = 0 by omega, cd_zero]
  simp only [show 10 * 10 = 100 by rfl, show 100 * 10 = 1000 by rfl, show 1000 * 10 = 10000 by rfl, show 10000 * 10 = 100000 by rfl, show 100000 * 10 = 1000000 by rfl]
  omega
theorem cd_bd (d : Int) (n : Nat) (h : n < 10000000) : 0 ≤ cd d n ∧ cd d n ≤ 7 := by
  rw [cd_sum d n h]
  have h1 := c1_bd d n
  have h2 := c1_bd d (n / 10)
  have h3 := c1_bd d (n / 100)
  have h4 := c1_bd d (n / 1000)
  have h5 := c1_bd d (n / 10000)
  have h6 := c1_bd d (n / 100000)
  have h7 := c1_bd d (n / 1000000)
  omega
def tot (d : Int) : Nat → Int
  | 0 => 0
  | n + 1 => tot d n + cd d (n + 1)
theorem tot_bd (d : Int) : ∀ n, n ≤ 1000000 → 0 ≤ tot d n ∧ tot d n ≤ 7 * n
  | 0, _ => by simp [tot]
  | n + 1, h => by
    have := tot_bd d n (by omega)
    have := cd_bd d (n + 1) (by omega)
    simp only [tot]
    omega
/-- What one place adds. -/
def F (p d m : Int) : Int := if p ≤ m then (m / (10 * p) - (if d = 0 then 1 else 0)) * p + (if m / p % 10 > d then p else if m / p % 10 = d then m % p + 1 else 0) else 0
theorem F_zero (p d : Int) (h : 1 ≤ p) : F p d 0 = 0 := by unfold F; rw [if_neg (by omega)]
theorem F_no (p d m : Int) (h : ¬ p ≤ m) : F p d m = 0 := by unfold F; rw [if_neg h]
def g1 (p d m : Int) : Int := if p ≤ m then (if m / p % 10 = d then 1 else 0) else 0
theorem F_succ_1 (d m : Int) (h : 0 ≤ m) (hd : 0 ≤ d) (hd9 : d ≤ 9) : F 1 d (m + 1) = F 1 d m + g1 1 d (m + 1) := by
  unfold F g1; by_cases hd0 : d = 0 <;> simp only [hd0, if_true, if_false] <;> repeat' split
  all_goals omega
theorem F_succ_10 (d m : Int) (h : 0 ≤ m) (hd : 0 ≤ d) (hd9 : d ≤ 9) : F 10 d (m + 1) = F 10 d m + g1 10 d (m + 1) := by
  unfold F g1; by_cases hd0 : d = 0 <;> simp only [hd0, if_true, if_false] <;> repeat' split
  all_goals omega
theorem F_succ_100 (d m : Int) (h : 0 ≤ m) (hd : 0 ≤ d) (hd9 : d ≤ 9) : F 100 d (m + 1) = F 100 d m + g1 100 d (m + 1) := by
  unfold F g1; by_cases hd0 : d = 0 <;> simp only [hd0, if_true, if_false] <;> repeat' split
  all_goals omega
theorem F_succ_1000 (d m : Int) (h : 0 ≤ m) (hd : 0 ≤ d) (hd9 : d ≤ 9) : F 1000 d (m + 1) = F 1000 d m + g1 1000 d (m + 1) := by
  unfold F g1; by_cases hd0 : d = 0 <;> simp only [hd0, if_true, if_false] <;> repeat' split
  all_goals omega
theorem F_succ_10000 (d m : Int) (h : 0 ≤ m) (hd : 0 ≤ d) (hd9 : d ≤ 9) : F 10000 d (m + 1) = F 10000 d m + g1 10000 d (m + 1) := by
  unfold F g1; by_cases hd0 : d = 0 <;> simp only [hd0, if_true, if_false] <;> repeat' split
  all_goals omega
theorem F_succ_100000 (d m : Int) (h : 0 ≤ m) (hd : 0 ≤ d) (hd9 : d ≤ 9) : F 100000 d (m + 1) = F 100000 d m + g1 100000 d (m + 1) := by
  unfold F g1; by_cases hd0 : d = 0 <;> simp only [hd0, if_true, if_false] <;> repeat' split
  all_goals omega
theorem F_succ_1000000 (d m : Int) (h : 0 ≤ m) (hd : 0 ≤ d) (hd9 : d ≤ 9) : F 1000000 d (m + 1) = F 1000000 d m + g1 1000000 d (m + 1) := by
  unfold F g1; by_cases hd0 : d = 0 <;> simp only [hd0, if_true, if_false] <;> repeat' split
  all_goals omega
theorem g1_c1 (p : Nat) (d : Int) (n : Nat) (hp : 1 ≤ p) : g1 (p : Int) d (n : Int) = c1 d (n / p) := by
  unfold g1 c1
  by_cases h : p ≤ n
  · have h1 : n / p ≠ 0 := by
      have : 0 < n / p := Nat.div_pos h (by omega)
      omega
    have e : ((n : Int) / (p : Int) % 10) = ((n / p % 10 : Nat) : Int) := by push_cast; rfl
    rw [if_pos (by omega), if_neg h1, e]
  · rw [if_neg (by omega), Nat.div_eq_of_lt (by omega), if_pos rfl]
def S (d m : Int) : Int := F 1 d m + F 10 d m + F 100 d m + F 1000 d m + F 10000 d m + F 100000 d m + F 1000000 d m
theorem S_tot (d : Int) (hd : 0 ≤ d) (hd9 : d ≤ 9) : ∀ n : Nat, n ≤ 1000000 → S d (n : Int) = tot d n
  | 0, _ => by
    have z : ((0 : Nat) : Int) = 0 := rfl
    simp only [tot, S, z]
    rw [F_zero 1 d (by omega), F_zero 10 d (by omega), F_zero 100 d (by omega), F_zero 1000 d (by omega), F_zero 10000 d (by omega), F_zero 100000 d (by omega), F_zero 1000000 d (by omega)]; rfl
  | n + 1, h => by
    have ih := S_tot d hd hd9 n (by omega)
    simp only [tot]
    rw [← ih, cd_sum d (n + 1) (by omega)]
    have e1 := g1_c1 1 d (n + 1) (by omega)
    have e2 := g1_c1 10 d (n + 1) (by omega)
    have e3 := g1_c1 100 d (n + 1) (by omega)
    have e4 := g1_c1 1000 d (n + 1) (by omega)
    have e5 := g1_c1 10000 d (n + 1) (by omega)
    have e6 := g1_c1 100000 d (n + 1) (by omega)
    have e7 := g1_c1 1000000 d (n + 1) (by omega)
    rw [Nat.div_one] at e1
    rw [← e1, ← e2, ← e3, ← e4, ← e5, ← e6, ← e7]
    unfold S
    have cst : ((n + 1 : Nat) : Int) = (n : Int) + 1 := by omega
    rw [cst, F_succ_1 d n (by omega) hd hd9, F_succ_10 d n (by omega) hd hd9, F_succ_100 d n (by omega) hd hd9, F_succ_1000 d n (by omega) hd hd9, F_succ_10000 d n (by omega) hd hd9, F_succ_100000 d n (by omega) hd hd9, F_succ_1000000 d n (by omega) hd hd9]
    have q1 : ((1 : Nat) : Int) = 1 := rfl
    have q2 : ((10 : Nat) : Int) = 10 := rfl
    have q3 : ((100 : Nat) : Int) = 100 := rfl
    have q4 : ((1000 : Nat) : Int) = 1000 := rfl
    have q5 : ((10000 : Nat) : Int) = 10000 := rfl
    have q6 : ((100000 : Nat) : Int) = 100000 := rfl
    have q7 : ((1000000 : Nat) : Int) = 1000000 := rfl
    rw [q1, q2, q3, q4, q5, q6, q7]
    omega
/-! ### the reference's loops -/
theorem spec_in (m d : Int) : ∀ (n : Nat), n < 10000000 → ∀ (acc i : Int), 0 ≤ acc → acc + n ≤ 2000000000 → ∀ r, Ev (fun k => spec_CountDigit.l0 k m d (acc + cd d n) (wrap64 (i + 1))) r → Ev (fun k => spec_CountDigit.l1 k m d acc i (n : Int)) r := by
  intro n
  induction n using Nat.strongRecOn with
  | ind n ih =>
    intro hn acc i h0 h1 r hr
    refine M.Ev_succ ?_
    by_cases hz : n = 0
    · subst hz
      rw [cd_zero, Int.add_zero] at hr
      simp only [spec_CountDigit.l1, show ¬ (((0 : Nat) : Int) > 0) by omega, if_false]
      exact hr
    · have e1 : wrap64 (Int.tdiv (n : Int) 10) = ((n / 10 : Nat) : Int) := by
        rw [M.tdiv_pos (by omega), M.w64 (by omega) (by omega)]; omega
      have e2 : Int.tmod (n : Int) 10 = ((n % 10 : Nat) : Int) := by
        rw [M.tmod_pos (by omega)]; omega
      simp only [spec_CountDigit.l1, show ((n : Int) > 0) by omega, if_true, e1, e2]
      rw [cd] at hr
      simp only [hz, dite_false] at hr
      by_cases hc : ((n % 10 : Nat) : Int) = d
      · simp only [hc, if_true] at hr ⊢
        rw [M.w64 (by omega) (by omega)]
        refine ih (n / 10) (by omega) (by omega) _ i (by omega) (by omega) r ?_
        rw [Int.add_assoc]; exact hr
        done
      · simp only [hc, if_false, Int.zero_add] at hr ⊢
        exact ih (n / 10) (by omega) (by omega) _ i (by omega) (by omega) r hr
theorem spec_out (m : Nat) (hm : m ≤ 1000000) (d : Int) : ∀ (j n : Nat), n ≤ m → m - n = j → Ev (fun k => spec_CountDigit.l0 k (m : Int) d (tot d n) ((n : Int) + 1)) (tot d m, true) := by
  intro j
  induction j with
  | zero =>
    intro n hn hd
    obtain rfl : n = m := by omega
    refine M.Ev_succ (M.Ev_some fun k => ?_)
    simp only [spec_CountDigit.l0]
    rw [if_neg (by omega)]
  | succ j ih =>
    intro n hn hd
    refine M.Ev_succ ?_
    have hb := tot_bd d n (by omega)
    simp only [spec_CountDigit.l0, show ((n : Int) + 1 ≤ (m : Int)) by omega, if_true]
    refine spec_in m d (n + 1) (by omega) _ _ (by omega) (by omega) _ ?_
    have := ih (n + 1) (by omega) (by omega)
    rw [M.w64 (by omega) (by omega)]
    exact this
/-! ### the program's loop -/
theorem bd (p m : Int) (hp : 1 ≤ p) (h0 : 1 ≤ m) (h : m ≤ 1000000) : 0 ≤ m / (10 * p) * p ∧ m / (10 * p) * p ≤ m := by
  have h1 : 0 ≤ m / (10 * p) := Int.ediv_nonneg (by omega) (by omega)
  have h2 : m / (10 * p) * (10 * p) ≤ m := Int.ediv_mul_le m (by omega)
  have h3 : m / (10 * p) * (10 * p) = 10 * (m / (10 * p) * p) := by rw [Int.mul_left_comm]
  have h4 : 0 ≤ m / (10 * p) * p := Int.mul_nonneg h1 (by omega)
  omega
theorem F_bd (p d m : Int) (hp : 1 ≤ p) (hp2 : p ≤ 1000000) (h0 : 1 ≤ m) (h : m ≤ 1000000) : -1000000 ≤ F p d m ∧ F p d m ≤ 3000001 := by
  have hb := bd p m hp h0 h
  have hm : 0 ≤ m % p := Int.emod_nonneg _ (by omega)
  have hm2 : m % p < p := Int.emod_lt_of_pos _ (by omega)
  unfold F
  by_cases c : d = 0
  · rw [if_pos c, Int.sub_mul, Int.one_mul]
    repeat' split
    all_goals omega
  · rw [if_neg c, Int.sub_zero]
    repeat' split
    all_goals omega
theorem impl_step (m d : Int) (h0 : 1 ≤ m) (h : m ≤ 1000000) (p acc : Int) (hp : 1 ≤ p) (hp2 : p ≤ 1000000) (ha : -100000000 ≤ acc) (ha2 : acc ≤ 100000000) {r : Int × Bool}
    (H : Ev (fun k => impl_CountDigit.l0 k m d (acc + F p d m) (p * 10)) r) (H2 : ¬ p ≤ m → r = (acc, true)) : Ev (fun k => impl_CountDigit.l0 k m d acc p) r := by
  by_cases c : p ≤ m
  · have hb := bd p m hp h0 h
    have hm : 0 ≤ m % p := Int.emod_nonneg _ (by omega)
    have hm2 : m % p < p := Int.emod_lt_of_pos _ (by omega)
    have hq : 0 ≤ m / p := Int.ediv_nonneg (by omega) (by omega)
    have hq2 : m / p ≤ m := Int.ediv_le_self _ (by omega)
    have hr : 0 ≤ m / (10 * p) := Int.ediv_nonneg (by omega) (by omega)
    have hr2 : m / (10 * p) ≤ m := Int.ediv_le_self _ (by omega)
    have e1 : wrap64 (10 * p) = 10 * p := M.w64 (by omega) (by omega)
    have e2 : wrap64 (p * 10) = p * 10 := M.w64 (by omega) (by omega)
    have e3 : wrap64 (Int.tdiv m (10 * p)) = m / (10 * p) := by rw [M.tdiv_pos (by omega), M.w64 (by omega) (by omega)]
    have e4 : wrap64 (Int.tdiv m p) = m / p := by rw [M.tdiv_pos (by omega), M.w64 (by omega) (by omega)]
    have e5 : Int.tmod (m / p) 10 = m / p % 10 := M.tmod_pos hq
    have e6 : Int.tmod m p = m % p := M.tmod_pos (by omega)
    have e7 : wrap64 (m / (10 * p) - 1) = m / (10 * p) - 1 := M.w64 (by omega) (by omega)
    refine M.Ev_succ ?_
    simp only [impl_CountDigit.l0, c, if_true, e1, e3, e4, e5, e6, e7, show ¬ (10 * p = 0) by omega, show ¬ (p = 0) by omega, if_false]
    by_cases cd0 : d = 0
    · simp only [cd0, if_true]
      refine M.Ev_succ ?_
      have e8 : wrap64 ((m / (10 * p) - 1) * p) = (m / (10 * p) - 1) * p := by rw [Int.sub_mul]; exact M.w64 (by omega) (by omega)
      have e9 : wrap64 (acc + (m / (10 * p) - 1) * p) = acc + (m / (10 * p) - 1) * p := by rw [Int.sub_mul]; exact M.w64 (by omega) (by omega)
      simp only [impl_CountDigit.j2, e2, e8, e9]
      unfold F at H
      rw [if_pos c, if_pos cd0, ← Int.add_assoc] at H
      rw [cd0] at H
      by_cases c1 : m / p % 10 > 0
      · simp only [c1, if_true] at H ⊢
        rw [M.w64 (by rw [Int.sub_mul]; omega) (by rw [Int.sub_mul]; omega)]; exact H
      · simp only [c1, if_false] at H ⊢
        by_cases c2 : m / p % 10 = 0
        · simp only [c2, if_true] at H ⊢
          rw [M.w64 (x := m % p + 1) (by omega) (by omega), M.w64 (by rw [Int.sub_mul]; omega) (by rw [Int.sub_mul]; omega)]; exact H
        · simp only [c2, if_false, Int.add_zero] at H ⊢; exact H
    · simp only [cd0, if_false]
      refine M.Ev_succ ?_
      have e8 : wrap64 (m / (10 * p) * p) = m / (10 * p) * p := M.w64 (by omega) (by omega)
      have e9 : wrap64 (acc + m / (10 * p) * p) = acc + m / (10 * p) * p := M.w64 (by omega) (by omega)
      simp only [impl_CountDigit.j2, e2, e8, e9]
      unfold F at H
      rw [if_pos c, if_neg cd0, ← Int.add_assoc, Int.sub_zero] at H
      by_cases c1 : m / p % 10 > d
      · simp only [c1, if_true] at H ⊢
        rw [M.w64 (by omega) (by omega)]; exact H
      · simp only [c1, if_false] at H ⊢
        by_cases c2 : m / p % 10 = d
        · simp only [c2, if_true] at H ⊢
          rw [M.w64 (x := m % p + 1) (by omega) (by omega), M.w64 (by omega) (by omega)]; exact H
        · simp only [c2, if_false, Int.add_zero] at H ⊢; exact H
  · refine M.Ev_succ (M.Ev_some fun k => ?_)
    simp only [impl_CountDigit.l0]
    rw [if_neg c, H2 c]
theorem impl_loop (m d : Int) (h0 : 1 ≤ m) (h : m ≤ 1000000) : Ev (fun k => impl_CountDigit.l0 k m d 0 1) (S d m, true) := by
  have b1 := F_bd 1 d m (by omega) (by omega) h0 h
  have b2 := F_bd 10 d m (by omega) (by omega) h0 h
  have b3 := F_bd 100 d m (by omega) (by omega) h0 h
  have b4 := F_bd 1000 d m (by omega) (by omega) h0 h
  have b5 := F_bd 10000 d m (by omega) (by omega) h0 h
  have b6 := F_bd 100000 d m (by omega) (by omega) h0 h
  have b7 := F_bd 1000000 d m (by omega) (by omega) h0 h
  have close : ∀ (acc p : Int), (¬ p ≤ m → acc = S d m) → ¬ p ≤ m → ((S d m, true) : Int × Bool) = (acc, true) := fun acc p hh hc => by rw [hh hc]
  refine impl_step m d h0 h 1 0 (by omega) (by omega) (by omega) (by omega) ?_ (close _ _ fun c => by omega)
  refine impl_step m d h0 h 10 _ (by omega) (by omega) (by omega) (by omega) ?_ (close _ _ fun c => ?_)
  rotate_left
  · unfold S; rw [F_no 10 d m (by omega), F_no 100 d m (by omega), F_no 1000 d m (by omega), F_no 10000 d m (by omega), F_no 100000 d m (by omega), F_no 1000000 d m (by omega)]; omega
  refine impl_step m d h0 h 100 _ (by omega) (by omega) (by omega) (by omega) ?_ (close _ _ fun c => ?_)
  rotate_left
  · unfold S; rw [F_no 100 d m (by omega), F_no 1000 d m (by omega), F_no 10000 d m (by omega), F_no 100000 d m (by omega), F_no 1000000 d m (by omega)]; omega
  refine impl_step m d h0 h 1000 _ (by omega) (by omega) (by omega) (by omega) ?_ (close _ _ fun c => ?_)
  rotate_left
  · unfold S; rw [F_no 1000 d m (by omega), F_no 10000 d m (by omega), F_no 100000 d m (by omega), F_no 1000000 d m (by omega)]; omega
  refine impl_step m d h0 h 10000 _ (by omega) (by omega) (by omega) (by omega) ?_ (close _ _ fun c => ?_)
  rotate_left
  · unfold S; rw [F_no 10000 d m (by omega), F_no 100000 d m (by omega), F_no 1000000 d m (by omega)]; omega
  refine impl_step m d h0 h 100000 _ (by omega) (by omega) (by omega) (by omega) ?_ (close _ _ fun c => ?_)
  rotate_left
  · unfold S; rw [F_no 100000 d m (by omega), F_no 1000000 d m (by omega)]; omega
  refine impl_step m d h0 h 1000000 _ (by omega) (by omega) (by omega) (by omega) ?_ (close _ _ fun c => ?_)
  rotate_left
  · unfold S; rw [F_no 1000000 d m (by omega)]; omega
  refine M.Ev_succ (M.Ev_some fun k => ?_)
  simp only [impl_CountDigit.l0]
  rw [if_neg (by omega)]
  unfold S
  simp
end CD
namespace DG
/-- How many digits a number below ten millions has. -/
theorem len_digs (n : Nat) (h0 : 1 ≤ n) (h : n < 10000000) : (((M.digs n).length : Nat) : Int) =
    1 + (if 10 ≤ (n : Int) then 1 else 0) + (if 100 ≤ (n : Int) then 1 else 0) + (if 1000 ≤ (n : Int) then 1 else 0) + (if 10000 ≤ (n : Int) then 1 else 0) + (if 100000 ≤ (n : Int) then 1 else 0) + (if 1000000 ≤ (n : Int) then 1 else 0) := by
  have step : ∀ m : Nat, ¬ m < 10 → (M.digs m).length = (M.digs (m / 10)).length + 1 := fun m hm => by rw [M.digs_big hm]; simp
  have one : ∀ m : Nat, m < 10 → (M.digs m).length = 1 := fun m hm => by rw [M.digs_small hm]; simp
  by_cases c1 : n < 10
  · rw [one n c1]; simp; omega
  rw [step n c1]
  by_cases c2 : n / 10 < 10
  · rw [one _ c2]; repeat' split
    all_goals omega
  rw [step _ c2, Nat.div_div_eq_div_mul]
  by_cases c3 : n / (10 * 10) < 10
  · rw [one _ c3]; repeat' split
    all_goals omega
  rw [step _ c3, Nat.div_div_eq_div_mul]
  by_cases c4 : n / (10 * 10 * 10) < 10
  · rw [one _ c4]; repeat' split
    all_goals omega
  rw [step _ c4, Nat.div_div_eq_div_mul]
  by_cases c5 : n / (10 * 10 * 10 * 10) < 10
  · rw [one _ c5]; repeat' split
    all_goals omega
  rw [step _ c5, Nat.div_div_eq_div_mul]
  by_cases c6 : n / (10 * 10 * 10 * 10 * 10) < 10
  · rw [one _ c6]; repeat' split
    all_goals omega
  rw [step _ c6, Nat.div_div_eq_div_mul, one _ (by omega)]
  repeat' split
  all_goals omega
/-- What one place adds: as many plates as have that place. -/
def G (p m : Int) : Int := if p ≤ m then m - p + 1 else 0
def tot (m : Int) : Int := G 1 m + G 10 m + G 100 m + G 1000 m + G 10000 m + G 100000 m + G 1000000 m
theorem tot_0 : tot 0 = 0 := by simp [tot, G]
theorem G_succ (p m : Int) : G p (m + 1) = G p m + (if p ≤ m + 1 then 1 else 0) := by
  unfold G
  repeat' split
  all_goals omega
theorem tot_succ (n : Nat) (h : n < 1000000) : tot ((n : Int) + 1) = tot n + (((M.digs (n + 1)).length : Nat) : Int) := by
  rw [len_digs (n + 1) (by omega) (by omega)]
  have hc : ((n + 1 : Nat) : Int) = (n : Int) + 1 := by omega
  unfold tot
  rw [hc, G_succ 1, G_succ 10, G_succ 100, G_succ 1000, G_succ 10000, G_succ 100000, G_succ 1000000, if_pos (show 1 ≤ (n : Int) + 1 by omega)]
  generalize (if 10 ≤ (n : Int) + 1 then (1 : Int) else 0) = x1
  generalize (if 100 ≤ (n : Int) + 1 then (1 : Int) else 0) = x2
  generalize (if 1000 ≤ (n : Int) + 1 then (1 : Int) else 0) = x3
  generalize (if 10000 ≤ (n : Int) + 1 then (1 : Int) else 0) = x4
  generalize (if 100000 ≤ (n : Int) + 1 then (1 : Int) else 0) = x5
  generalize (if 1000000 ≤ (n : Int) + 1 then (1 : Int) else 0) = x6
  omega
theorem G_bd (p m : Int) (hp : 1 ≤ p) (h : m ≤ 1000000) : 0 ≤ G p m ∧ G p m ≤ 1000000 := by
  unfold G; split <;> omega
theorem tot_bd (m : Int) (h0 : 0 ≤ m) (h : m ≤ 1000000) : 0 ≤ tot m ∧ tot m ≤ 7000000 := by
  have b1 := G_bd 1 m (by omega) h
  have b2 := G_bd 10 m (by omega) h
  have b3 := G_bd 100 m (by omega) h
  have b4 := G_bd 1000 m (by omega) h
  have b5 := G_bd 10000 m (by omega) h
  have b6 := G_bd 100000 m (by omega) h
  have b7 := G_bd 1000000 m (by omega) h
  unfold tot
  omega
theorem spec_loop (m : Nat) (hm : m ≤ 1000000) : ∀ (d n : Nat), n ≤ m → m - n = d → Ev (fun k => spec_DigitsOnPlates.l0 k (m : Int) (tot n) ((n : Int) + 1)) (tot m, true) := by
  intro d
  induction d with
  | zero =>
    intro n hn hd
    obtain rfl : n = m := by omega
    refine M.Ev_succ (M.Ev_some fun k => ?_)
    simp only [spec_DigitsOnPlates.l0]
    rw [if_neg (by omega)]
  | succ d ih =>
    intro n hn hd
    refine M.Ev_succ ?_
    have hb := tot_bd n (by omega) (by omega)
    have hb2 := tot_bd ((n : Int) + 1) (by omega) (by omega)
    have hs := tot_succ n (by omega)
    simp only [spec_DigitsOnPlates.l0, show ((n : Int) + 1 ≤ (m : Int)) by omega, if_true]
    have e : Ev (fun k => spec_nuLong.f k ((n : Int) + 1)) (((M.digs (n + 1)).length : Nat) : Int) := by
      unfold spec_nuLong.f
      refine Ev.bind (spec_l1Num_ev (n + 1) (by omega)) (M.Ev_some fun k => ?_)
      rw [strOfNums_size]
    refine Ev.bind e ?_
    have := ih (n + 1) (by omega) (by omega)
    rw [← hs, M.w64 (by omega) (by omega), M.w64 (by omega) (by omega)]
    exact this
theorem impl_step (m : Int) (h0 : 1 ≤ m) (h : m ≤ 1000000) (p acc : Int) (hp : 1 ≤ p) (hp2 : p ≤ 1000000) (ha : 0 ≤ acc) (ha2 : acc ≤ 100000000) {r : Int × Bool}
    (H : Ev (fun k => impl_DigitsOnPlates.l0 k m (acc + G p m) (p * 10)) r) (H2 : ¬ p ≤ m → r = (acc, true)) : Ev (fun k => impl_DigitsOnPlates.l0 k m acc p) r := by
  by_cases c : p ≤ m
  · refine M.Ev_succ ?_
    simp only [impl_DigitsOnPlates.l0, c, if_true]
    rw [M.w64 (x := m - p) (by omega) (by omega), M.w64 (x := m - p + 1) (by omega) (by omega), M.w64 (x := acc + (m - p + 1)) (by omega) (by omega), M.w64 (x := p * 10) (by omega) (by omega)]
    have e : G p m = m - p + 1 := by unfold G; rw [if_pos c]
    rw [e] at H
    exact H
  · refine M.Ev_succ (M.Ev_some fun k => ?_)
    simp only [impl_DigitsOnPlates.l0]
    rw [if_neg c, H2 c]
theorem G_no (p m : Int) (h : ¬ p ≤ m) : G p m = 0 := by unfold G; rw [if_neg h]
theorem impl_loop (m : Int) (h0 : 1 ≤ m) (h : m ≤ 1000000) : Ev (fun k => impl_DigitsOnPlates.l0 k m 0 1) (tot m, true) := by
  have b1 := G_bd 1 m (by omega) h
  have b2 := G_bd 10 m (by omega) h
  have b3 := G_bd 100 m (by omega) h
  have b4 := G_bd 1000 m (by omega) h
  have b5 := G_bd 10000 m (by omega) h
  have b6 := G_bd 100000 m (by omega) h
  have b7 := G_bd 1000000 m (by omega) h
  have fin : ∀ (acc p : Int), acc = tot m → m < p → Ev (fun k => impl_DigitsOnPlates.l0 k m acc p) (tot m, true) := by
    intro acc p ha hp
    refine M.Ev_succ (M.Ev_some fun k => ?_)
    simp only [impl_DigitsOnPlates.l0]
    rw [if_neg (by omega), ha]
  have close : ∀ (acc p : Int), (¬ p ≤ m → acc = tot m) → ¬ p ≤ m → ((tot m, true) : Int × Bool) = (acc, true) := fun acc p hh hc => by rw [hh hc]
  refine impl_step m h0 h 1 0 (by omega) (by omega) (by omega) (by omega) ?_ (close _ _ fun c => by omega)
  refine impl_step m h0 h 10 _ (by omega) (by omega) (by omega) (by omega) ?_ (close _ _ fun c => ?_)
  rotate_left
  · unfold tot; rw [G_no 10 m (by omega), G_no 100 m (by omega), G_no 1000 m (by omega), G_no 10000 m (by omega), G_no 100000 m (by omega), G_no 1000000 m (by omega)]; omega
  refine impl_step m h0 h 100 _ (by omega) (by omega) (by omega) (by omega) ?_ (close _ _ fun c => ?_)
  rotate_left
  · unfold tot; rw [G_no 100 m (by omega), G_no 1000 m (by omega), G_no 10000 m (by omega), G_no 100000 m (by omega), G_no 1000000 m (by omega)]; omega
  refine impl_step m h0 h 1000 _ (by omega) (by omega) (by omega) (by omega) ?_ (close _ _ fun c => ?_)
  rotate_left
  · unfold tot; rw [G_no 1000 m (by omega), G_no 10000 m (by omega), G_no 100000 m (by omega), G_no 1000000 m (by omega)]; omega
  refine impl_step m h0 h 10000 _ (by omega) (by omega) (by omega) (by omega) ?_ (close _ _ fun c => ?_)
  rotate_left
  · unfold tot; rw [G_no 10000 m (by omega), G_no 100000 m (by omega), G_no 1000000 m (by omega)]; omega
  refine impl_step m h0 h 100000 _ (by omega) (by omega) (by omega) (by omega) ?_ (close _ _ fun c => ?_)
  rotate_left
  · unfold tot; rw [G_no 100000 m (by omega), G_no 1000000 m (by omega)]; omega
  refine impl_step m h0 h 1000000 _ (by omega) (by omega) (by omega) (by omega) ?_ (close _ _ fun c => ?_)
  rotate_left
  · unfold tot; rw [G_no 1000000 m (by omega)]; omega
  refine fin _ _ ?_ (by omega)
  unfold tot
  simp
end DG
theorem all_loops (l : List Int) (hl : l.length ≤ 1000000000000) (a b : Int) : ∀ (d i : Nat), i ≤ l.length → l.length - i = d →
    ∃ g : Bool, Ev (fun k => spec_l1All.l0 k a b l (l.length : Int) (i : Int)) g ∧ Ev (fun k => impl_allWithin.l0 k a b l (l.length : Int) (i : Int)) g ∧ (g = true ↔ ∀ j : Nat, i ≤ j → j < l.length → a ≤ rd l (j : Int) ∧ rd l (j : Int) ≤ b) := by
  intro d
  induction d with
  | zero =>
    intro i hi hd
    refine ⟨true, M.Ev_succ (M.Ev_some fun k => ?_), M.Ev_succ (M.Ev_some fun k => ?_), ?_⟩
    · simp only [spec_l1All.l0]; rw [if_neg (by omega)]
    · simp only [impl_allWithin.l0]; rw [if_neg (by omega)]
    · simp only [true_iff]; intro j h1 h2; omega
  | succ d ih =>
    intro i hi hd
    have e : wrap64 ((i : Int) + 1) = ((i + 1 : Nat) : Int) := by rw [M.w64 (by omega) (by omega)]; omega
    by_cases c : a ≤ rd l (i : Int) ∧ rd l (i : Int) ≤ b
    · obtain ⟨g, h1, h2, h3⟩ := ih (i + 1) (by omega) (by omega)
      refine ⟨g, M.Ev_succ ?_, M.Ev_succ ?_, ?_⟩
      · simp only [spec_l1All.l0, show (i : Int) < (l.length : Int) by omega, show (0 : Int) ≤ (i : Int) by omega, if_true, spec_l1In_eq, c, and_self, decide_true, Option.bind_some, e]
        exact h1
      · simp only [impl_allWithin.l0, show (i : Int) < (l.length : Int) by omega, show (0 : Int) ≤ (i : Int) by omega, if_true, impl_within_eq, c, and_self, decide_true, Option.bind_some, e]
        exact h2
      · rw [h3]
        constructor
        · intro h j x y
          by_cases q : j = i
          · rw [q]; exact c
          · exact h j (by omega) y
        · exact fun h j x y => h j (by omega) y
    · refine ⟨false, M.Ev_succ (M.Ev_some fun k => ?_), M.Ev_succ (M.Ev_some fun k => ?_), ?_⟩
      · simp only [spec_l1All.l0, show (i : Int) < (l.length : Int) by omega, show (0 : Int) ≤ (i : Int) by omega, if_true, spec_l1In_eq, c, decide_false, Option.bind_some, Bool.false_eq_true, if_false]
      · simp only [impl_allWithin.l0, show (i : Int) < (l.length : Int) by omega, show (0 : Int) ≤ (i : Int) by omega, if_true, impl_within_eq, c, decide_false, Option.bind_some, Bool.false_eq_true, if_false]
      · simp only [Bool.false_eq_true, false_iff]
        intro h
        exact c (h i (by omega) (by omega))
theorem all_both (l : List Int) (hl : l.length ≤ 1000000000000) (a b : Int) : ∃ g : Bool, Ev (fun k => spec_l1All.f k l a b) g ∧ Ev (fun k => impl_allWithin.f k l a b) g ∧ (g = true ↔ ∀ j : Nat, j < l.length → a ≤ rd l (j : Int) ∧ rd l (j : Int) ≤ b) := by
  obtain ⟨g, h1, h2, h3⟩ := all_loops l hl a b l.length 0 (by omega) (by omega)
  exact ⟨g, h1, h2, h3.trans ⟨fun h j x => h j (by omega) x, fun h j _ x => h j x⟩⟩
/-- The reference's count of the digits that a plate needs. -/
theorem need_spec (L : List Int) (last : Int) (r : Int × Bool) : ∀ (n : Nat), n ≤ 10000000 → ∀ (x N : List Int), x.length = 10 → N.length = 10 → (∀ d : Nat, d < 10 → 0 ≤ rd x (d : Int) ∧ rd x (d : Int) + n ≤ 100000000) → (∀ d : Nat, d < 10 → rd N (d : Int) = rd x (d : Int) + M.cd (d : Int) n) →
    Ev (fun k => spec_PlatesFrom.l2 k L last N N 10 0) r → Ev (fun k => spec_PlatesFrom.l1 k L last x (n : Int)) r := by
  intro n
  induction n using Nat.strongRecOn with
  | ind n ih =>
    intro hn x N hx hN hb hc hr
    refine M.Ev_succ ?_
    by_cases hz : n = 0
    · subst hz
      have e : x = N := M.rd_ext (by omega) (fun d hd => by have := hc d (by omega); rw [M.cd_zero] at this; omega)
      simp only [spec_PlatesFrom.l1, show ¬ (((0 : Nat) : Int) > 0) by omega, if_false, e, hN]
      exact hr
    · have e1 : wrap64 (Int.tdiv (n : Int) 10) = ((n / 10 : Nat) : Int) := by rw [M.tdiv_pos (by omega), M.w64 (by omega) (by omega)]; omega
      have e2 : Int.tmod (n : Int) 10 = ((n % 10 : Nat) : Int) := by rw [M.tmod_pos (by omega)]; omega
      have hd := hb (n % 10) (by omega)
      simp only [spec_PlatesFrom.l1, show ((n : Int) > 0) by omega, if_true, e1, e2, show (0 : Int) ≤ ((n % 10 : Nat) : Int) by omega, show ((n % 10 : Nat) : Int) < (x.length : Int) by omega, Int.toNat_natCast]
      rw [M.w64 (by omega) (by omega)]
      refine ih (n / 10) (by omega) (by omega) _ N (by rw [List.length_set]; exact hx) hN ?_ ?_ hr
      · intro d hd10
        have := hb d hd10
        rw [M.rd_set (by omega)]
        split
        · rename_i q; subst q; omega
        · omega
      · intro d hd10
        rw [M.rd_set (by omega), hc d hd10, M.cd_pos _ (by omega)]
        by_cases q : d = n % 10
        · rw [if_pos q, if_pos (by omega), q]; omega
        · rw [if_neg q, if_neg (by omega)]; omega
theorem check_no (L N : List Int) (hL : L.length = 10) (hN : N.length = 10) (last : Int) : ∀ (j i : Nat), i ≤ 10 → 10 - i = j → (∃ d : Nat, i ≤ d ∧ d < 10 ∧ rd L (d : Int) < rd N (d : Int)) →
    Ev (fun k => spec_PlatesFrom.l2 k L last N N 10 (i : Int)) (last, true) := by
  intro j
  induction j with
  | zero => intro i hi hd ⟨d, h1, h2, _⟩; omega
  | succ j ih =>
    intro i hi hd ⟨d, h1, h2, h3⟩
    have e : wrap64 ((i : Int) + 1) = ((i + 1 : Nat) : Int) := by rw [M.w64 (by omega) (by omega)]; omega
    refine M.Ev_succ ?_
    simp only [spec_PlatesFrom.l2, show (i : Int) < 10 by omega, show (0 : Int) ≤ (i : Int) by omega, if_true, show (i : Int) < (N.length : Int) by omega, show (i : Int) < (L.length : Int) by omega, e]
    by_cases c : rd N (i : Int) > rd L (i : Int)
    · simp only [c, if_true]; exact M.Ev_some fun k => rfl
    · simp only [c, if_false]
      refine ih (i + 1) (by omega) (by omega) ⟨d, ?_, h2, h3⟩
      by_cases q : d = i
      · subst q; omega
      · omega
theorem check_yes (L N : List Int) (hL : L.length = 10) (hN : N.length = 10) (last : Int) (r : Int × Bool) (hr : Ev (fun k => spec_PlatesFrom.l3 k L last N 10 0) r) (h : ∀ d : Nat, d < 10 → rd N (d : Int) ≤ rd L (d : Int)) : ∀ (j i : Nat), i ≤ 10 → 10 - i = j →
    Ev (fun k => spec_PlatesFrom.l2 k L last N N 10 (i : Int)) r := by
  intro j
  induction j with
  | zero =>
    intro i hi hd
    refine M.Ev_succ ?_
    simp only [spec_PlatesFrom.l2, show ¬ ((i : Int) < 10) by omega, if_false, hN]
    exact hr
  | succ j ih =>
    intro i hi hd
    have e : wrap64 ((i : Int) + 1) = ((i + 1 : Nat) : Int) := by rw [M.w64 (by omega) (by omega)]; omega
    have := h i (by omega)
    refine M.Ev_succ ?_
    simp only [spec_PlatesFrom.l2, show (i : Int) < 10 by omega, show (0 : Int) ≤ (i : Int) by omega, if_true, show (i : Int) < (N.length : Int) by omega, show (i : Int) < (L.length : Int) by omega, e, show ¬ (rd N (i : Int) > rd L (i : Int)) by omega, if_false]
    exact ih (i + 1) (by omega) (by omega)
theorem take_spec (N L' : List Int) (hN : N.length = 10) (hL' : L'.length = 10) (hNb : ∀ d : Nat, d < 10 → 0 ≤ rd N (d : Int)) (last : Int) (r : Int × Bool) (hl : 0 ≤ last) (hl2 : last ≤ 10000000) (hr : Ev (fun k => spec_PlatesFrom.l0 k L' (last + 1)) r) :
    ∀ (j i : Nat) (L : List Int), i ≤ 10 → 10 - i = j → L.length = 10 → (∀ d : Nat, d < 10 → 0 ≤ rd L (d : Int) ∧ rd L (d : Int) ≤ 100000000) → (∀ d : Nat, i ≤ d → d < 10 → rd N (d : Int) ≤ rd L (d : Int)) → (∀ d : Nat, d < 10 → rd L' (d : Int) = rd L (d : Int) - (if i ≤ d then rd N (d : Int) else 0)) → Ev (fun k => spec_PlatesFrom.l3 k L last N 10 (i : Int)) r := by
  intro j
  induction j with
  | zero =>
    intro i L hi hd hL hb hle hc
    have e : L = L' := M.rd_ext (by omega) (fun d hd10 => by have := hc d (by omega); rw [if_neg (by omega)] at this; omega)
    refine M.Ev_succ ?_
    simp only [spec_PlatesFrom.l3, show ¬ ((i : Int) < 10) by omega, if_false, e]
    rw [M.w64 (by omega) (by omega)]
    exact hr
  | succ j ih =>
    intro i L hi hd hL hb hle hc
    have e : wrap64 ((i : Int) + 1) = ((i + 1 : Nat) : Int) := by rw [M.w64 (by omega) (by omega)]; omega
    have b1 := hb i (by omega)
    have b2 := hNb i (by omega)
    have b3 := hle i (by omega) (by omega)
    refine M.Ev_succ ?_
    simp only [spec_PlatesFrom.l3, show (i : Int) < 10 by omega, show (0 : Int) ≤ (i : Int) by omega, if_true, show (i : Int) < (N.length : Int) by omega, show (i : Int) < (L.length : Int) by omega, e, Int.toNat_natCast]
    rw [M.w64 (by omega) (by omega)]
    refine ih (i + 1) _ (by omega) (by omega) (by rw [List.length_set]; exact hL) ?_ ?_ ?_
    · intro d hd10
      have := hb d hd10
      rw [M.rd_set (by omega)]
      split <;> omega
    · intro d hd1 hd10
      rw [M.rd_set (by omega), if_neg (by omega)]
      exact hle d (by omega) hd10
    · intro d hd10
      rw [M.rd_set (by omega), hc d hd10]
      by_cases q : d = i
      · subst q; rw [if_pos (by omega), if_pos rfl, if_neg (by omega)]; omega
      · rw [if_neg q]
        by_cases q2 : i ≤ d
        · rw [if_pos q2, if_pos (by omega)]
        · rw [if_neg q2, if_neg (by omega)]
/-- The program's round: enough digits. -/
theorem impl_yes (L' : List Int) (hL' : L'.length = 10) (last : Int) (r : Int × Bool) (hl : 0 ≤ last) (hl2 : last ≤ 10000000) (hr : Ev (fun k => impl_PlatesFrom.l0 k L' (last + 1)) r) : ∀ (n : Nat), n ≤ 10000000 → ∀ (L : List Int), L.length = 10 → (∀ d : Nat, d < 10 → rd L (d : Int) ≤ 100000000) →
    (∀ d : Nat, d < 10 → M.cd (d : Int) n ≤ rd L (d : Int)) → (∀ d : Nat, d < 10 → rd L' (d : Int) = rd L (d : Int) - M.cd (d : Int) n) → Ev (fun k => impl_PlatesFrom.l1 k L last (n : Int)) r := by
  intro n
  induction n using Nat.strongRecOn with
  | ind n ih =>
    intro hn L hL hb hle hc
    refine M.Ev_succ ?_
    by_cases hz : n = 0
    · subst hz
      have e : L = L' := M.rd_ext (by omega) (fun d hd => by have := hc d (by omega); rw [M.cd_zero] at this; omega)
      simp only [impl_PlatesFrom.l1, show ¬ (((0 : Nat) : Int) > 0) by omega, if_false, e]
      rw [M.w64 (by omega) (by omega)]
      exact hr
    · have e1 : wrap64 (Int.tdiv (n : Int) 10) = ((n / 10 : Nat) : Int) := by rw [M.tdiv_pos (by omega), M.w64 (by omega) (by omega)]; omega
      have e2 : Int.tmod (n : Int) 10 = ((n % 10 : Nat) : Int) := by rw [M.tmod_pos (by omega)]; omega
      have b1 := hb (n % 10) (by omega)
      have b2 := hle (n % 10) (by omega)
      rw [M.cd_pos _ (by omega), if_pos rfl] at b2
      have b3 := M.cd_nonneg ((n % 10 : Nat) : Int) (n / 10)
      simp only [impl_PlatesFrom.l1, show ((n : Int) > 0) by omega, if_true, e1, e2, show (0 : Int) ≤ ((n % 10 : Nat) : Int) by omega, show ((n % 10 : Nat) : Int) < (L.length : Int) by omega, Int.toNat_natCast, Option.bind_some]
      rw [M.w64 (x := rd L ((n % 10 : Nat) : Int) - 1) (by omega) (by omega), M.rd_set (by omega), if_pos rfl]
      simp only [show ¬ (rd L ((n % 10 : Nat) : Int) - 1 < 0) by omega, if_false]
      refine ih (n / 10) (by omega) (by omega) _ (by rw [List.length_set]; exact hL) ?_ ?_ ?_
      · intro d hd10
        have := hb d hd10
        rw [M.rd_set (by omega)]
        split <;> omega
      · intro d hd10
        have := hle d hd10
        rw [M.cd_pos _ (by omega)] at this
        rw [M.rd_set (by omega)]
        by_cases q : d = n % 10
        · subst q; rw [if_pos rfl] at this ⊢; omega
        · rw [if_neg (by omega)] at this; rw [if_neg q]; omega
      · intro d hd10
        rw [hc d hd10, M.rd_set (by omega), M.cd_pos _ (by omega)]
        by_cases q : d = n % 10
        · subst q; rw [if_pos rfl, if_pos rfl]; omega
        · rw [if_neg (by omega), if_neg q]; omega
/-- The program's round: too few digits. -/
theorem impl_no (last : Int) : ∀ (n : Nat), n ≤ 10000000 → ∀ (L : List Int), L.length = 10 → (∀ d : Nat, d < 10 → 0 ≤ rd L (d : Int) ∧ rd L (d : Int) ≤ 100000000) →
    (∃ d : Nat, d < 10 ∧ rd L (d : Int) < M.cd (d : Int) n) → Ev (fun k => impl_PlatesFrom.l1 k L last (n : Int)) (last, true) := by
  intro n
  induction n using Nat.strongRecOn with
  | ind n ih =>
    intro hn L hL hb ⟨d, hd, hlt⟩
    have hz : n ≠ 0 := by
      intro q
      subst q
      rw [M.cd_zero] at hlt
      have := hb d hd
      omega
    refine M.Ev_succ ?_
    have e1 : wrap64 (Int.tdiv (n : Int) 10) = ((n / 10 : Nat) : Int) := by rw [M.tdiv_pos (by omega), M.w64 (by omega) (by omega)]; omega
    have e2 : Int.tmod (n : Int) 10 = ((n % 10 : Nat) : Int) := by rw [M.tmod_pos (by omega)]; omega
    have b1 := hb (n % 10) (by omega)
    simp only [impl_PlatesFrom.l1, show ((n : Int) > 0) by omega, if_true, e1, e2, show (0 : Int) ≤ ((n % 10 : Nat) : Int) by omega, show ((n % 10 : Nat) : Int) < (L.length : Int) by omega, Int.toNat_natCast, Option.bind_some]
    rw [M.w64 (x := rd L ((n % 10 : Nat) : Int) - 1) (by omega) (by omega), M.rd_set (by omega), if_pos rfl]
    by_cases c : rd L ((n % 10 : Nat) : Int) - 1 < 0
    · simp only [c, if_true]; exact M.Ev_some fun k => rfl
    · simp only [c, if_false]
      refine ih (n / 10) (by omega) (by omega) _ (by rw [List.length_set]; exact hL) ?_ ⟨d, hd, ?_⟩
      · intro d' hd'
        have := hb d' hd'
        rw [M.rd_set (by omega)]
        split <;> omega
      · rw [M.cd_pos _ (by omega)] at hlt
        rw [M.rd_set (by omega)]
        by_cases q : d = n % 10
        · subst q; rw [if_pos rfl] at hlt ⊢; omega
        · rw [if_neg (by omega)] at hlt; rw [if_neg q]; omega
def ten (L : List Int) : Int := rd L 0 + rd L 1 + rd L 2 + rd L 3 + rd L 4 + rd L 5 + rd L 6 + rd L 7 + rd L 8 + rd L 9
def subL (L : List Int) (n : Nat) : List Int := (List.range 10).map fun (d : Nat) => rd L (d : Int) - M.cd (d : Int) n
theorem subL_length (L : List Int) (n : Nat) : (subL L n).length = 10 := by simp [subL]
theorem subL_get (L : List Int) (n d : Nat) (h : d < 10) : rd (subL L n) (d : Int) = rd L (d : Int) - M.cd (d : Int) n := by
  rw [M.rd_get (by rw [subL_length]; exact h)]; simp [subL]
def cdL (n : Nat) : List Int := (List.range 10).map fun (d : Nat) => M.cd (d : Int) n
theorem cdL_length (n : Nat) : (cdL n).length = 10 := by simp [cdL]
theorem cdL_get (n d : Nat) (h : d < 10) : rd (cdL n) (d : Int) = M.cd (d : Int) n := by
  rw [M.rd_get (by rw [cdL_length]; exact h)]; simp [cdL]
theorem ten_sub (L : List Int) (n : Nat) (hn : 0 < n) : ten (subL L n) + 1 ≤ ten L := by
  have g : ∀ d : Nat, d < 10 → rd (subL L n) (d : Int) + (if ((n % 10 : Nat) : Int) = (d : Int) then 1 else 0) ≤ rd L (d : Int) := by
    intro d hd
    rw [subL_get L n d hd, M.cd_pos _ hn]
    have := M.cd_nonneg (d : Int) (n / 10)
    omega
  have g0 := g 0 (by omega)
  have g1 := g 1 (by omega)
  have g2 := g 2 (by omega)
  have g3 := g 3 (by omega)
  have g4 := g 4 (by omega)
  have g5 := g 5 (by omega)
  have g6 := g 6 (by omega)
  have g7 := g 7 (by omega)
  have g8 := g 8 (by omega)
  have g9 := g 9 (by omega)
  have hm : n % 10 < 10 := by omega
  unfold ten
  generalize n % 10 = m at *
  have c0 : ((0 : Nat) : Int) = 0 := rfl
  have c1 : ((1 : Nat) : Int) = 1 := rfl
  have c2 : ((2 : Nat) : Int) = 2 := rfl
  have c3 : ((3 : Nat) : Int) = 3 := rfl
  have c4 : ((4 : Nat) : Int) = 4 := rfl
  have c5 : ((5 : Nat) : Int) = 5 := rfl
  have c6 : ((6 : Nat) : Int) = 6 := rfl
  have c7 : ((7 : Nat) : Int) = 7 := rfl
  have c8 : ((8 : Nat) : Int) = 8 := rfl
  have c9 : ((9 : Nat) : Int) = 9 := rfl
  rw [c0] at g0; rw [c1] at g1; rw [c2] at g2; rw [c3] at g3; rw [c4] at g4; rw [c5] at g5; rw [c6] at g6; rw [c7] at g7; rw [c8] at g8; rw [c9] at g9
  have hm10 : m = 0 ∨ m = 1 ∨ m = 2 ∨ m = 3 ∨ m = 4 ∨ m = 5 ∨ m = 6 ∨ m = 7 ∨ m = 8 ∨ m = 9 := by omega
  rcases hm10 with rfl | rfl | rfl | rfl | rfl | rfl | rfl | rfl | rfl | rfl <;> simp at g0 g1 g2 g3 g4 g5 g6 g7 g8 g9 <;> omega
/-- Both tell the greatest number up to which the digits are enough. -/
def Enough (L : List Int) (v : Nat) : Prop := (∀ d : Nat, d < 10 → M.totd (d : Int) v ≤ rd L (d : Int)) ∧ ∃ d : Nat, d < 10 ∧ rd L (d : Int) < M.totd (d : Int) (v + 1)
theorem rd_zeros (d : Nat) (h : d < 10) : rd (List.replicate 10 (0 : Int)) (d : Int) = 0 := by
  rw [M.rd_get (by rw [List.length_replicate]; exact h), List.getElem_replicate]
theorem stop_both (L0 L : List Int) (last : Nat) (hlast : last ≤ 2000000) (hL : L.length = 10) (hb : ∀ d : Nat, d < 10 → 0 ≤ rd L (d : Int) ∧ rd L (d : Int) ≤ 100000) (hrel : ∀ d : Nat, d < 10 → rd L (d : Int) = rd L0 (d : Int) - M.totd (d : Int) last)
    (key : ∃ d : Nat, d < 10 ∧ rd L (d : Int) < M.cd (d : Int) (last + 1)) : Enough L0 last ∧ Ev (fun k => spec_PlatesFrom.l0 k L (last : Int)) ((last : Int), true) ∧ Ev (fun k => impl_PlatesFrom.l0 k L (last : Int)) ((last : Int), true) := by
  have e : wrap64 ((last : Int) + 1) = ((last + 1 : Nat) : Int) := by rw [M.w64 (by omega) (by omega)]; omega
  refine ⟨⟨fun d hd => by have := hrel d hd; have := hb d hd; omega, ?_⟩, M.Ev_succ ?_, M.Ev_succ ?_⟩
  · obtain ⟨d, hd, h⟩ := key
    refine ⟨d, hd, ?_⟩
    have := hrel d hd
    simp only [M.totd]
    omega
  · have h10 : (10 : Nat) ≤ 35184372088832 := by omega
    simp only [spec_PlatesFrom.l0, e]
    simp only [show ((10 : Int) ≤ 35184372088832) = True by simp, show ((10 : Nat) ≤ 35184372088832) = True by simp, if_true]
    refine need_spec L last _ (last + 1) (by omega) (List.replicate 10 0) (cdL (last + 1)) (by simp) (cdL_length _) ?_ ?_ ?_
    · intro d hd
      rw [rd_zeros d hd]; omega
    · intro d hd
      rw [cdL_get _ _ hd, rd_zeros d hd]; omega
    · refine check_no L _ hL (cdL_length _) last 10 0 (by omega) (by omega) ?_
      obtain ⟨d, hd, h⟩ := key
      exact ⟨d, by omega, hd, by rw [cdL_get _ _ hd]; exact h⟩
  · simp only [impl_PlatesFrom.l0, e]
    exact impl_no last (last + 1) (by omega) L hL (fun d hd => by have := hb d hd; omega) key
theorem rounds_both (L0 : List Int) : ∀ (b : Nat) (L : List Int) (last : Nat), L.length = 10 → (∀ d : Nat, d < 10 → 0 ≤ rd L (d : Int) ∧ rd L (d : Int) ≤ 100000) → ten L ≤ b → last + b ≤ 2000000 → (∀ d : Nat, d < 10 → rd L (d : Int) = rd L0 (d : Int) - M.totd (d : Int) last) →
    ∃ v : Nat, v ≤ 2000000 ∧ Enough L0 v ∧ Ev (fun k => spec_PlatesFrom.l0 k L (last : Int)) ((v : Int), true) ∧ Ev (fun k => impl_PlatesFrom.l0 k L (last : Int)) ((v : Int), true) := by
  intro b
  induction b with
  | zero =>
    intro L last hL hb hs hlast hrel
    have ht := ten_sub L (last + 1) (by omega)
    refine ⟨last, by omega, stop_both L0 L last (by omega) hL hb hrel ?_⟩
    apply Classical.byContradiction
    intro hno
    have hge : ∀ d : Nat, d < 10 → 0 ≤ rd (subL L (last + 1)) (d : Int) := fun d hd => by
      rw [subL_get _ _ _ hd]
      have : ¬ rd L (d : Int) < M.cd (d : Int) (last + 1) := fun z => hno ⟨d, hd, z⟩
      omega
    have g0 : 0 ≤ rd (subL L (last + 1)) 0 := hge 0 (by omega)
    have g1 : 0 ≤ rd (subL L (last + 1)) 1 := hge 1 (by omega)
    have g2 : 0 ≤ rd (subL L (last + 1)) 2 := hge 2 (by omega)
    have g3 : 0 ≤ rd (subL L (last + 1)) 3 := hge 3 (by omega)
    have g4 : 0 ≤ rd (subL L (last + 1)) 4 := hge 4 (by omega)
    have g5 : 0 ≤ rd (subL L (last + 1)) 5 := hge 5 (by omega)
    have g6 : 0 ≤ rd (subL L (last + 1)) 6 := hge 6 (by omega)
    have g7 : 0 ≤ rd (subL L (last + 1)) 7 := hge 7 (by omega)
    have g8 : 0 ≤ rd (subL L (last + 1)) 8 := hge 8 (by omega)
    have g9 : 0 ≤ rd (subL L (last + 1)) 9 := hge 9 (by omega)
    unfold ten at ht hs
    omega
  | succ b ih =>
    intro L last hL hb hs hlast hrel
    by_cases key : ∃ d : Nat, d < 10 ∧ rd L (d : Int) < M.cd (d : Int) (last + 1)
    · exact ⟨last, by omega, stop_both L0 L last (by omega) hL hb hrel key⟩
    · have hle : ∀ d : Nat, d < 10 → M.cd (d : Int) (last + 1) ≤ rd L (d : Int) := fun d hd => by
        have : ¬ rd L (d : Int) < M.cd (d : Int) (last + 1) := fun z => key ⟨d, hd, z⟩
        omega
      have ht := ten_sub L (last + 1) (by omega)
      have hb' : ∀ d : Nat, d < 10 → 0 ≤ rd (subL L (last + 1)) (d : Int) ∧ rd (subL L (last + 1)) (d : Int) ≤ 100000 := fun d hd => by
        rw [subL_get _ _ _ hd]
        have := hle d hd
        have := hb d hd
        have := M.cd_nonneg (d : Int) (last + 1)
        omega
      obtain ⟨v, h1, h2, h3, h4⟩ := ih (subL L (last + 1)) (last + 1) (subL_length _ _) hb' (by omega) (by omega) (fun d hd => by
        rw [subL_get _ _ _ hd, hrel d hd]
        simp only [M.totd]
        omega)
      have e : wrap64 ((last : Int) + 1) = ((last + 1 : Nat) : Int) := by rw [M.w64 (by omega) (by omega)]; omega
      refine ⟨v, h1, h2, M.Ev_succ ?_, M.Ev_succ ?_⟩
      · simp only [spec_PlatesFrom.l0, e]
        simp only [show ((10 : Int) ≤ 35184372088832) = True by simp, show ((10 : Nat) ≤ 35184372088832) = True by simp, if_true]
        refine need_spec L last _ (last + 1) (by omega) (List.replicate 10 0) (cdL (last + 1)) (by simp) (cdL_length _) ?_ ?_ ?_
        · intro d hd
          rw [rd_zeros d hd]; omega
        · intro d hd
          rw [cdL_get _ _ hd, rd_zeros d hd]; omega
        · refine check_yes L _ hL (cdL_length _) last _ ?_ (fun d hd => by rw [cdL_get _ _ hd]; exact hle d hd) 10 0 (by omega) (by omega)
          refine take_spec (cdL (last + 1)) (subL L (last + 1)) (cdL_length _) (subL_length _ _) (fun d hd => by rw [cdL_get _ _ hd]; exact M.cd_nonneg _ _) last _ (by omega) (by omega) ?_ 10 0 L (by omega) (by omega) hL (fun d hd => by have := hb d hd; omega) (fun d _ hd => by rw [cdL_get _ _ hd]; exact hle d hd) (fun d hd => by rw [subL_get _ _ _ hd, if_pos (by omega), cdL_get _ _ hd])
          exact h3
      · simp only [impl_PlatesFrom.l0, e]
        exact impl_yes (subL L (last + 1)) (subL_length _ _) last _ (by omega) (by omega) h4 (last + 1) (by omega) L hL (fun d hd => by have := hb d hd; omega) hle (fun d hd => subL_get _ _ _ hd)
theorem PlatesFrom_both (L : List Int) (hl : L.length ≤ 1000000000000) : ∃ r : Int × Bool, Ev (fun k => spec_PlatesFrom.f k L) r ∧ Ev (fun k => impl_PlatesFrom.f k L) r ∧
    ((r = (0, false) ∧ ¬ (L.length = 10 ∧ ∀ d : Nat, d < 10 → 0 ≤ rd L (d : Int) ∧ rd L (d : Int) ≤ 100000)) ∨ ∃ v : Nat, r = ((v : Int), true) ∧ L.length = 10 ∧ (∀ d : Nat, d < 10 → 0 ≤ rd L (d : Int) ∧ rd L (d : Int) ≤ 100000) ∧ v ≤ 2000000 ∧ Enough L v) := by
  unfold spec_PlatesFrom.f impl_PlatesFrom.f
  by_cases c : L.length = 10
  · simp only [show (L.length : Int) = 10 by omega, if_true]
    obtain ⟨g, h1, h2, h3⟩ := all_both L hl 0 100000
    cases g with
    | false =>
      refine ⟨(0, false), Ev.bind h1 (M.Ev_succ (M.Ev_some fun k => by simp [spec_PlatesFrom.j0])), Ev.bind h2 (M.Ev_succ (M.Ev_some fun k => by simp [impl_PlatesFrom.j0])), .inl ⟨rfl, fun z => ?_⟩⟩
      have := h3.2 (fun j hj => z.2 j (by omega))
      simp at this
    | true =>
      have hb : ∀ d : Nat, d < 10 → 0 ≤ rd L (d : Int) ∧ rd L (d : Int) ≤ 100000 := fun d hd => h3.1 rfl d (by omega)
      have g0 : rd L 0 ≤ 100000 := (hb 0 (by omega)).2
      have g1 : rd L 1 ≤ 100000 := (hb 1 (by omega)).2
      have g2 : rd L 2 ≤ 100000 := (hb 2 (by omega)).2
      have g3 : rd L 3 ≤ 100000 := (hb 3 (by omega)).2
      have g4 : rd L 4 ≤ 100000 := (hb 4 (by omega)).2
      have g5 : rd L 5 ≤ 100000 := (hb 5 (by omega)).2
      have g6 : rd L 6 ≤ 100000 := (hb 6 (by omega)).2
      have g7 : rd L 7 ≤ 100000 := (hb 7 (by omega)).2
      have g8 : rd L 8 ≤ 100000 := (hb 8 (by omega)).2
      have g9 : rd L 9 ≤ 100000 := (hb 9 (by omega)).2
      obtain ⟨v, h4, h5, h6, h7⟩ := rounds_both L 1000000 L 0 c hb (by unfold ten; omega) (by omega) (fun d _ => by simp [M.totd])
      refine ⟨((v : Int), true), Ev.bind h1 (M.Ev_succ ?_), Ev.bind h2 (M.Ev_succ ?_), .inr ⟨v, rfl, c, hb, h4, h5⟩⟩
      · simp only [spec_PlatesFrom.j0, Bool.not_true, Bool.false_eq_true, if_false, spec_l1Own.f, Option.bind_some, List.length_nil, Nat.zero_add, List.nil_append, show L.length < 17592186044416 by omega, if_true]
        exact h6
      · simp only [impl_PlatesFrom.j0, Bool.not_true, Bool.false_eq_true, if_false, slices_Clone_int_int.f, Option.bind_some, List.length_nil, Nat.zero_add, List.nil_append, show L.length < 17592186044416 by omega, if_true]
        exact h7
  · simp only [show ¬ ((L.length : Int) = 10) by omega, if_false]
    exact ⟨(0, false), M.Ev_succ (M.Ev_some fun k => by simp [spec_PlatesFrom.j0]), M.Ev_succ (M.Ev_some fun k => by simp [impl_PlatesFrom.j0]), .inl ⟨rfl, fun z => c z.1⟩⟩
/-! ### digits on plates -/
theorem cd_same (d : Int) : ∀ n : Nat, CD.cd d n = M.cd d n := by
  intro n
  induction n using Nat.strongRecOn with
  | ind n ih =>
    by_cases h : n = 0
    · rw [h, CD.cd_zero, M.cd_zero]
    · rw [CD.cd_step, M.cd_pos d (by omega), ih (n / 10) (by omega)]
      unfold CD.c1
      rw [if_neg h]
theorem tot_same (d : Int) : ∀ n : Nat, CD.tot d n = M.totd d n
  | 0 => rfl
  | n + 1 => by
    rw [CD.tot, M.totd, tot_same d n, cd_same]
noncomputable def cdR (a b : Int) : Int × Bool := if (1 ≤ a ∧ a ≤ 1000000) ∧ (0 ≤ b ∧ b ≤ 9) then (M.totd b a.toNat, true) else (0, false)
theorem CountDigit_ev (a b : Int) : Ev (fun k => spec_CountDigit.f k a b) (cdR a b) ∧ Ev (fun k => impl_CountDigit.f k a b) (cdR a b) := by
  unfold cdR
  by_cases c : 1 ≤ a ∧ a ≤ 1000000
  · by_cases c2 : 0 ≤ b ∧ b ≤ 9
    · rw [if_pos ⟨c, c2⟩]
      obtain ⟨m, rfl⟩ := Int.eq_ofNat_of_zero_le (show 0 ≤ a by omega)
      rw [Int.toNat_natCast, ← tot_same]
      refine ⟨?_, ?_⟩
      · unfold spec_CountDigit.f
        simp only [spec_nuMost_eq, spec_l1In_eq, Option.bind_some, c, c2, decide_true, if_true, and_self, Bool.not_true]
        refine M.Ev_succ ?_
        simp only [spec_CountDigit.j0, show ¬ (false = true) by decide, if_false]
        exact CD.spec_out m (by omega) b m 0 (by omega) (by omega)
      · unfold impl_CountDigit.f
        simp only [impl_isMost_eq, impl_within_eq, Option.bind_some, c, c2, decide_true, if_true, and_self, Bool.not_true]
        refine M.Ev_succ ?_
        simp only [impl_CountDigit.j0, show ¬ (false = true) by decide, if_false]
        rw [← CD.S_tot b c2.1 c2.2 m (by omega)]
        exact CD.impl_loop (m : Int) b c.1 c.2
    · rw [if_neg (fun z => c2 z.2)]
      refine ⟨?_, ?_⟩
      · unfold spec_CountDigit.f
        simp only [spec_nuMost_eq, spec_l1In_eq, Option.bind_some, c, c2, decide_true, decide_false, if_true, and_self, Bool.not_false]
        exact M.Ev_succ (M.Ev_some fun k => by simp [spec_CountDigit.j0])
      · unfold impl_CountDigit.f
        simp only [impl_isMost_eq, impl_within_eq, Option.bind_some, c, c2, decide_true, decide_false, if_true, and_self, Bool.not_false]
        exact M.Ev_succ (M.Ev_some fun k => by simp [impl_CountDigit.j0])
  · rw [if_neg (fun z => c z.1)]
    refine ⟨?_, ?_⟩
    · unfold spec_CountDigit.f
      simp only [spec_nuMost_eq, Option.bind_some, c, decide_false, show ¬ (false = true) by decide, if_false]
      exact M.Ev_succ (M.Ev_some fun k => by simp [spec_CountDigit.j0])
    · unfold impl_CountDigit.f
      simp only [impl_isMost_eq, Option.bind_some, c, decide_false, show ¬ (false = true) by decide, if_false]
      exact M.Ev_succ (M.Ev_some fun k => by simp [impl_CountDigit.j0])
def dlen (n : Nat) : Nat := (M.digs n).length
theorem dlen_pos (n : Nat) : 1 ≤ dlen n := M.digs_pos n
/-- The digits on the plates up to n. -/
def DL : Nat → Nat
  | 0 => 0
  | n + 1 => DL n + dlen (n + 1)
theorem DL_tot : ∀ n : Nat, n ≤ 1000000 → DG.tot (n : Int) = (DL n : Int)
  | 0, _ => DG.tot_0
  | n + 1, h => by
    have := DG.tot_succ n (by omega)
    rw [show ((n + 1 : Nat) : Int) = (n : Int) + 1 by omega, this, DL_tot n (by omega), DL]
    unfold dlen
    omega
theorem DL_lt {n m : Nat} (h : n < m) : DL n < DL m := by
  induction h with
  | refl => rw [DL]; have := dlen_pos (n + 1); omega
  | step _ ih => rw [DL]; omega
theorem DL_le {n m : Nat} (h : n ≤ m) : DL n ≤ DL m := by
  rcases Nat.eq_or_lt_of_le h with rfl | h
  · exact Nat.le_refl _
  · exact Nat.le_of_lt (DL_lt h)
theorem DL_small : ∀ n : Nat, n ≤ 5000 → DL n ≤ 5 * n
  | 0, _ => Nat.le_refl _
  | n + 1, h => by
    have h1 := DL_small n (by omega)
    have h2 := M.digs_le 4 (n + 1) (by omega)
    rw [DL]
    unfold dlen
    omega
def dgR (a : Int) : Int × Bool := if 1 ≤ a ∧ a ≤ 1000000 then ((DL a.toNat : Int), true) else (0, false)
theorem Digits_ev (a : Int) : Ev (fun k => spec_DigitsOnPlates.f k a) (dgR a) ∧ Ev (fun k => impl_DigitsOnPlates.f k a) (dgR a) := by
  unfold dgR
  by_cases c : 1 ≤ a ∧ a ≤ 1000000
  · rw [if_pos c]
    obtain ⟨m, rfl⟩ := Int.eq_ofNat_of_zero_le (show 0 ≤ a by omega)
    rw [Int.toNat_natCast, ← DL_tot m (by omega)]
    refine ⟨?_, ?_⟩
    · unfold spec_DigitsOnPlates.f
      simp only [spec_nuMost_eq, Option.bind_some, c, decide_true, if_true, and_self]
      have := DG.spec_loop m (by omega) m 0 (by omega) (by omega)
      simpa [DG.tot_0] using this
    · unfold impl_DigitsOnPlates.f
      simp only [impl_isMost_eq, Option.bind_some, c, decide_true, if_true, and_self]
      exact DG.impl_loop (m : Int) c.1 c.2
  · rw [if_neg c]
    refine ⟨?_, ?_⟩
    · unfold spec_DigitsOnPlates.f
      simp only [spec_nuMost_eq, Option.bind_some, c, decide_false]
      exact M.Ev_some fun k => by simp
    · unfold impl_DigitsOnPlates.f
      simp only [impl_isMost_eq, Option.bind_some, c, decide_false]
      exact M.Ev_some fun k => by simp
theorem nuLong_ev (n : Nat) (h : n ≤ 9223372036854775807) : Ev (fun k => spec_nuLong.f k (n : Int)) ((dlen n : Nat) : Int) := by
  unfold spec_nuLong.f
  refine Ev.bind (spec_l1Num_ev n h) (M.Ev_some fun k => ?_)
  rw [strOfNums_size]
  rfl
theorem itoa_size (n : Nat) (h : n ≤ 9223372036854775807) : ∃ t, strconv_Itoa_35.f (n : Int) = some t ∧ (t.size : Int) = ((dlen n : Nat) : Int) := ⟨_, itoa_eq n h, by rw [strOfNums_size]; rfl⟩
theorem last_loops : ∀ (d last : Nat), last + d ≤ 2000000 → ∃ r : Nat, Ev (fun k => spec_LastWithDigits.l0 k (d : Int) (last : Int)) ((r : Int), true) ∧ Ev (fun k => impl_LastWithDigits.l0 k (d : Int) (last : Int) ((dlen (last + 1) : Nat) : Int)) ((r : Int), true) ∧ r ≤ last + d ∧ DL r ≤ DL last + d ∧ DL last + d < DL (r + 1) := by
  intro d
  induction d using Nat.strongRecOn with
  | ind d ih =>
    intro last hl
    have e1 : wrap64 ((last : Int) + 1) = ((last + 1 : Nat) : Int) := by rw [M.w64 (by omega) (by omega)]; omega
    have e2 : wrap64 (((last + 1 : Nat) : Int) + 1) = ((last + 2 : Nat) : Int) := by rw [M.w64 (by omega) (by omega)]; omega
    have hn := nuLong_ev (last + 1) (by omega)
    have hp := dlen_pos (last + 1)
    have hD : DL (last + 1) = DL last + dlen (last + 1) := rfl
    obtain ⟨t, ht, hs⟩ := itoa_size (last + 2) (by omega)
    by_cases c : dlen (last + 1) ≤ d
    · have e3 : wrap64 ((d : Int) - ((dlen (last + 1) : Nat) : Int)) = ((d - dlen (last + 1) : Nat) : Int) := by rw [M.w64 (by omega) (by omega)]; omega
      obtain ⟨r, h1, h2, h3, h4, h5⟩ := ih (d - dlen (last + 1)) (by omega) (last + 1) (by omega)
      refine ⟨r, M.Ev_succ ?_, M.Ev_succ ?_, by omega, by omega, by omega⟩
      · simp only [spec_LastWithDigits.l0, e1]
        refine Ev.bind hn ?_
        simp only [show (d : Int) ≥ ((dlen (last + 1) : Nat) : Int) by omega, if_true]
        refine Ev.bind hn ?_
        simp only [e3]
        exact h1
      · simp only [impl_LastWithDigits.l0, e1, e2, e3, ht, show ((dlen (last + 1) : Nat) : Int) ≤ (d : Int) by omega, if_true, Option.bind_some, hs]
        exact h2
    · refine ⟨last, M.Ev_succ ?_, M.Ev_succ ?_, by omega, by omega, by omega⟩
      · simp only [spec_LastWithDigits.l0, e1]
        refine Ev.bind hn ?_
        simp only [show ¬ ((d : Int) ≥ ((dlen (last + 1) : Nat) : Int)) by omega, if_false]
        exact M.Ev_some fun k => rfl
      · simp only [impl_LastWithDigits.l0, show ¬ (((dlen (last + 1) : Nat) : Int) ≤ (d : Int)) by omega, if_false]
        exact M.Ev_some fun k => rfl
theorem Last_ev (a : Int) : ∃ r : Int × Bool, Ev (fun k => spec_LastWithDigits.f k a) r ∧ Ev (fun k => impl_LastWithDigits.f k a) r ∧ (r.2 = true ∨ 0 ≤ a ∧ a ≤ 1000000 → ∃ n : Nat, r = ((n : Int), true) ∧ (n : Int) ≤ a ∧ a ≤ 1000000 ∧ (DL n : Int) ≤ a ∧ a < (DL (n + 1) : Int)) := by
  unfold spec_LastWithDigits.f impl_LastWithDigits.f
  simp only [spec_l1In_eq, impl_within_eq, Option.bind_some]
  by_cases c : 0 ≤ a ∧ a ≤ 1000000
  · obtain ⟨d, rfl⟩ : ∃ d : Nat, a = d := ⟨a.toNat, by omega⟩
    obtain ⟨r, h1, h2, h3, h4, h5⟩ := last_loops d 0 (by omega)
    obtain ⟨t, ht, hs⟩ := itoa_size 1 (by omega)
    have h0 : DL 0 = 0 := rfl
    refine ⟨((r : Int), true), ?_, ?_, fun _ => ⟨r, rfl, by omega, by omega, by omega, by omega⟩⟩
    · simp only [decide_eq_true c, if_true]
      exact h1
    · simp only [decide_eq_true c, if_true, show ((0 : Int) + 1) = ((1 : Nat) : Int) from rfl, ht, Option.bind_some, hs]
      exact h2
  · refine ⟨(0, false), ?_, ?_, fun h => ?_⟩
    · simp only [decide_eq_false c, Bool.false_eq_true, if_false]
      exact M.Ev_some fun k => rfl
    · simp only [decide_eq_false c, Bool.false_eq_true, if_false]
      exact M.Ev_some fun k => rfl
    · rcases h with h | h
      · cases h
      · exact absurd h c
/-- Of ten digits, together. -/
def T10 (f : Nat → Int) : Int := f 0 + f 1 + f 2 + f 3 + f 4 + f 5 + f 6 + f 7 + f 8 + f 9
theorem T10_add (f g : Nat → Int) : T10 (fun d => f d + g d) = T10 f + T10 g := by simp only [T10]; omega
theorem T10_one (r : Nat) (h : r < 10) : T10 (fun d => if ((r : Nat) : Int) = (d : Int) then 1 else 0) = 1 := by
  have : r = 0 ∨ r = 1 ∨ r = 2 ∨ r = 3 ∨ r = 4 ∨ r = 5 ∨ r = 6 ∨ r = 7 ∨ r = 8 ∨ r = 9 := by omega
  rcases this with rfl | rfl | rfl | rfl | rfl | rfl | rfl | rfl | rfl | rfl <;> rfl
theorem T10_cd : ∀ n : Nat, 0 < n → T10 (fun d => M.cd (d : Int) n) = (dlen n : Int) := by
  intro n
  induction n using Nat.strongRecOn with
  | ind n ih =>
    intro h
    have e : (fun d : Nat => M.cd (d : Int) n) = fun d : Nat => (if ((n % 10 : Nat) : Int) = (d : Int) then 1 else 0) + M.cd (d : Int) (n / 10) := funext fun d => M.cd_pos (d : Int) h
    rw [e, T10_add, T10_one (n % 10) (by omega)]
    by_cases c : n < 10
    · have z : n / 10 = 0 := by omega
      have hz : T10 (fun d => M.cd (d : Int) (n / 10)) = 0 := by
        rw [z]
        unfold T10
        simp only [M.cd_zero]
        rfl
      rw [hz]
      unfold dlen
      rw [M.digs_small c]
      rfl
    · rw [ih (n / 10) (by omega) (by omega)]
      unfold dlen
      rw [M.digs_big c, List.length_append]
      simp
      omega
theorem T10_tot : ∀ n : Nat, T10 (fun d => M.totd (d : Int) n) = (DL n : Int)
  | 0 => rfl
  | n + 1 => by
    have e : (fun d : Nat => M.totd (d : Int) (n + 1)) = fun d : Nat => M.totd (d : Int) n + M.cd (d : Int) (n + 1) := rfl
    rw [e, T10_add, T10_tot n, T10_cd (n + 1) (by omega), DL]
    omega
theorem totd_nonneg (d : Int) (n : Nat) : 0 ≤ M.totd d n := by
  have := M.totd_mono d 0 n
  rw [Nat.zero_add] at this
  exact this
theorem totd_le {n : Nat} (d : Nat) (h : d < 10) : M.totd (d : Int) n ≤ (DL n : Int) := by
  have := T10_tot n
  simp only [T10] at this
  have p := fun d : Nat => totd_nonneg (d : Int) n
  have p0 := p 0; have p1 := p 1; have p2 := p 2; have p3 := p 3; have p4 := p 4; have p5 := p 5; have p6 := p 6; have p7 := p 7; have p8 := p 8; have p9 := p 9
  have hd : d = 0 ∨ d = 1 ∨ d = 2 ∨ d = 3 ∨ d = 4 ∨ d = 5 ∨ d = 6 ∨ d = 7 ∨ d = 8 ∨ d = 9 := by omega
  rcases hd with rfl | rfl | rfl | rfl | rfl | rfl | rfl | rfl | rfl | rfl <;> omega
open GFnPlatesMade (cl)
theorem cl_get (f : Nat → Int) {j : Nat} (h : j < 10) : (cl f).getD j 0 = f j := by
  have hd : j = 0 ∨ j = 1 ∨ j = 2 ∨ j = 3 ∨ j = 4 ∨ j = 5 ∨ j = 6 ∨ j = 7 ∨ j = 8 ∨ j = 9 := by omega
  rcases hd with rfl | rfl | rfl | rfl | rfl | rfl | rfl | rfl | rfl | rfl <;> rfl
theorem cl_rd (f : Nat → Int) {j : Nat} (h : j < 10) : rd (cl f) (j : Int) = f j := by
  unfold rd
  rw [Int.toNat_natCast]
  exact cl_get f h
theorem cl_mem {f : Nat → Int} {x : Int} (h : x ∈ cl f) : ∃ j : Nat, j < 10 ∧ x = f j := by
  unfold cl at h
  simp only [List.mem_cons, List.not_mem_nil, or_false] at h
  rcases h with h | h | h | h | h | h | h | h | h | h
  · exact ⟨0, by omega, h⟩
  · exact ⟨1, by omega, h⟩
  · exact ⟨2, by omega, h⟩
  · exact ⟨3, by omega, h⟩
  · exact ⟨4, by omega, h⟩
  · exact ⟨5, by omega, h⟩
  · exact ⟨6, by omega, h⟩
  · exact ⟨7, by omega, h⟩
  · exact ⟨8, by omega, h⟩
  · exact ⟨9, by omega, h⟩
theorem cl_sum (f : Nat → Int) : M.sumL (cl f) = T10 f := by
  unfold cl T10
  simp only [M.sumL]
  omega
theorem zSum_loop (l : List Int) (hl : l.length ≤ 1000) (hb : ∀ x ∈ l, 0 ≤ x ∧ x ≤ 1000000) : ∀ (d i : Nat), i ≤ l.length → l.length - i = d → Ev (fun r => laws_zSum.l0 r (M.sumL (l.take i)) l (l.length : Int) (i : Int)) (M.sumL l) := by
  intro d
  induction d with
  | zero =>
    intro i hi hd
    refine M.Ev_succ (M.Ev_some fun r => ?_)
    simp only [laws_zSum.l0]
    rw [if_neg (by omega), List.take_of_length_le (by omega)]
  | succ d ih =>
    intro i hi hd
    have hil : i < l.length := by omega
    have e : wrap64 ((i : Int) + 1) = ((i + 1 : Nat) : Int) := by rw [M.w64 (by omega) (by omega)]; omega
    have b1 := M.sumL_bd (l := l.take i) 1000000 (by omega) (fun x hx => hb x (List.mem_of_mem_take hx))
    have b2 : ((l.take i).length : Int) ≤ 1000 := by simp; omega
    have b3 := hb l[i] (List.getElem_mem _)
    refine M.Ev_succ ?_
    simp only [laws_zSum.l0, show (i : Int) < (l.length : Int) by omega, show (0 : Int) ≤ (i : Int) by omega, if_true, M.rd_get hil, e]
    rw [M.w64 (by omega) (by omega), ← M.sumL_take_succ hil]
    exact ih (i + 1) (by omega) (by omega)
/-- What all plates up to m need is enough for them, and for no more. -/
theorem enough_tot {m v : Nat} {L : List Int} (hL : ∀ j : Nat, j < 10 → rd L (j : Int) = M.totd (j : Int) m) (h : Enough L v) : v = m := by
  obtain ⟨h1, d, hd, h2⟩ := h
  rw [hL d hd] at h2
  rcases Nat.lt_trichotomy v m with c | c | c
  · have := M.totd_mono (d : Int) (v + 1) (m - (v + 1))
    rw [show v + 1 + (m - (v + 1)) = m by omega] at this
    omega
  · exact c
  · have h3 := DL_lt c
    have h4 := T10_tot v
    have h5 := T10_tot m
    have q := fun j hj => Int.le_trans (h1 j hj) (Int.le_of_eq (hL j hj))
    have q0 := q 0 (by omega); have q1 := q 1 (by omega); have q2 := q 2 (by omega); have q3 := q 3 (by omega); have q4 := q 4 (by omega); have q5 := q 5 (by omega); have q6 := q 6 (by omega); have q7 := q 7 (by omega); have q8 := q 8 (by omega); have q9 := q 9 (by omega)
    simp only [T10] at h4 h5
    omega
theorem made_from (m : Nat) (hm : m ≤ 5000) : Ev (fun k => impl_PlatesFrom.f k (cl fun j => M.totd (j : Int) m)) ((m : Int), true) := by
  obtain ⟨r, _, h2, h3⟩ := PlatesFrom_both (cl fun j => M.totd (j : Int) m) (by rw [GFnPlatesMade.cl_len]; omega)
  have hr := fun j hj => cl_rd (fun j => M.totd (j : Int) m) (j := j) hj
  have hs := DL_small m hm
  have hb : ∀ d : Nat, d < 10 → 0 ≤ rd (cl fun j => M.totd (j : Int) m) (d : Int) ∧ rd (cl fun j => M.totd (j : Int) m) (d : Int) ≤ 100000 := fun d hd => by
    rw [hr d hd]
    have := totd_le (n := m) d hd
    exact ⟨totd_nonneg _ _, by omega⟩
  rcases h3 with ⟨_, h3⟩ | ⟨v, rfl, _, _, _, h4⟩
  · exact absurd ⟨rfl, hb⟩ h3
  · rw [enough_tot hr h4] at h2
    exact h2
theorem zSum_need (m : Nat) (hm : m ≤ 5000) : Ev (fun k => laws_zSum.f k (cl fun j => M.totd (j : Int) m)) (DL m : Int) := by
  have hs := DL_small m hm
  have h := zSum_loop (cl fun j => M.totd (j : Int) m) (by rw [GFnPlatesMade.cl_len]; omega) (fun x hx => by
    obtain ⟨j, hj, rfl⟩ := cl_mem hx
    have := totd_le (n := m) j hj
    exact ⟨totd_nonneg _ _, by omega⟩) 10 0 (by omega) (by rw [GFnPlatesMade.cl_len])
  rw [cl_sum, T10_tot] at h
  exact h
theorem balStop (s lo : Nat) (hlo : lo ≤ 1000000) : Ev (fun k => spec_nuBalanced.l0 k (s : Int) (lo : Int) (lo : Int)) ((lo : Int), decide (lo * lo = s)) := by
  have hq := Nat.mul_le_mul hlo hlo
  obtain ⟨q, hqe⟩ : ∃ q, lo * lo = q := ⟨_, rfl⟩
  have e : wrap64 ((lo : Int) * (lo : Int)) = (q : Int) := by
    rw [← Int.natCast_mul, hqe]
    rw [hqe] at hq
    exact M.w64 (by omega) (by omega)
  rw [hqe]
  refine M.Ev_succ (M.Ev_some fun k => ?_)
  simp only [spec_nuBalanced.l0, Int.lt_irrefl, if_false, e]
  congr 2
  rw [Bool.eq_iff_iff]
  simp only [beq_iff_eq, decide_eq_true_eq]
  omega
theorem balStep (s lo hi md : Nat) (hmd : (lo + hi) / 2 = md) (c : lo < hi) (h2 : hi ≤ 1000000) : wrap64 (Int.tdiv (wrap64 ((lo : Int) + (hi : Int))) 2) = (md : Int) ∧ wrap64 ((md : Int) * (md : Int)) = ((md * md : Nat) : Int) ∧ wrap64 ((md : Int) + 1) = ((md + 1 : Nat) : Int) := by
  have hm : md ≤ 1000000 := by omega
  have hq := Nat.mul_le_mul hm hm
  refine ⟨?_, ?_, ?_⟩
  · rw [M.w64 (x := (lo : Int) + (hi : Int)) (by omega) (by omega), M.tdiv_pos (by omega), M.w64 (by omega) (by omega)]; omega
  · rw [← Int.natCast_mul]
    generalize md * md = q at hq
    exact M.w64 (by omega) (by omega)
  · rw [M.w64 (by omega) (by omega)]; omega
theorem balLoop (s : Nat) : ∀ (d lo hi : Nat), hi - (lo + 1) ≤ d → lo + 1 ≤ hi → hi ≤ 1000000 → s ≤ hi * hi → lo * lo < s →
    ∃ L : Nat, L + 1 ≤ 1000000 ∧ s ≤ (L + 1) * (L + 1) ∧ L * L < s ∧ Ev (fun k => spec_nuBalanced.l0 k (s : Int) ((lo + 1 : Nat) : Int) (hi : Int)) (((L + 1 : Nat) : Int), decide ((L + 1) * (L + 1) = s)) := by
  intro d
  induction d with
  | zero =>
    intro lo hi hd hle h2 h3 h4
    obtain rfl : lo + 1 = hi := by omega
    exact ⟨lo, h2, h3, h4, balStop s (lo + 1) h2⟩
  | succ d ih =>
    intro lo hi hd hle h2 h3 h4
    by_cases c : lo + 1 < hi
    · obtain ⟨md, hmd⟩ : ∃ md, (lo + 1 + hi) / 2 = md := ⟨_, rfl⟩
      have a1 : hi - (md + 1) ≤ d := by omega
      have a2 : md + 1 ≤ hi := by omega
      have a3 : md - (lo + 1) ≤ d := by omega
      have a4 : lo + 1 ≤ md := by omega
      have a5 : md ≤ 1000000 := by omega
      have a6 : ((lo + 1 : Nat) : Int) < (hi : Int) := by omega
      obtain ⟨em, eq, e1⟩ := balStep s (lo + 1) hi md hmd c h2
      by_cases cr : md * md < s
      · obtain ⟨L, b, c', d', e'⟩ := ih md hi a1 a2 h2 h3 cr
        refine ⟨L, b, c', d', M.Ev_succ ?_⟩
        have cr' : ((md * md : Nat) : Int) < (s : Int) := by exact_mod_cast cr
        simp only [spec_nuBalanced.l0, a6, if_true, em, eq, cr', e1]
        exact e'
      · obtain ⟨L, b, c', d', e'⟩ := ih lo md a3 a4 a5 (Nat.le_of_not_lt cr) h4
        refine ⟨L, b, c', d', M.Ev_succ ?_⟩
        have cr' : ¬ (((md * md : Nat) : Int) < (s : Int)) := by exact_mod_cast cr
        simp only [spec_nuBalanced.l0, a6, if_true, em, eq, cr', if_false]
        exact e'
    · obtain rfl : lo + 1 = hi := by omega
      exact ⟨lo, h2, h3, h4, balStop s (lo + 1) h2⟩
theorem sq_succ (L : Nat) : (L + 1) * (L + 1) = L * L + 2 * L + 1 := by rw [Nat.add_mul, Nat.mul_add]; omega
/-- The reference's search finds the house that the program finds, and tells where there is none. -/
theorem balanced_ev (m : Nat) (h1 : 1 ≤ m) (h2 : m ≤ 1000000) : ∃ r : Int × Bool, Ev (fun k => spec_nuBalanced.f k (m : Int)) r ∧ r.2 = decide (0 < impl_balancedHouse.bal m) ∧ (r.2 = true → r.1 = (impl_balancedHouse.bal m : Nat)) := by
  have hp := Nat.mul_le_mul h2 (show m + 1 ≤ 1000001 by omega)
  have hmm := Nat.mul_le_mul h1 (Nat.le_refl m)
  obtain ⟨p, hpe⟩ : ∃ p : Nat, m * (m + 1) = p := ⟨_, rfl⟩
  have e0 : (m : Int) * ((m : Int) + 1) = (p : Int) := by rw [← hpe]; simp
  have hpm : p = m * m + m := by rw [← hpe, Nat.mul_add, Nat.mul_one]
  have hp2 := Nat.mul_le_mul h1 (show 2 ≤ m + 1 by omega)
  rw [hpe] at hp hp2
  obtain ⟨L, l2, l3, l4, l5⟩ := balLoop (p / 2) m 0 m (by omega) (by omega) h2 (by omega) (by omega)
  refine ⟨(((L + 1 : Nat) : Int), decide ((L + 1) * (L + 1) = p / 2)), ?_, ?_⟩
  · unfold spec_nuBalanced.f
    have e1 : wrap64 (Int.tdiv (wrap64 ((m : Int) * wrap64 ((m : Int) + 1))) 2) = ((p / 2 : Nat) : Int) := by
      rw [M.w64 (x := (m : Int) + 1) (by omega) (by omega), e0, M.w64 (x := (p : Int)) (by omega) (by omega), M.tdiv_pos (by omega), M.w64 (by omega) (by omega)]; omega
    rw [e1]
    exact l5
  · unfold impl_balancedHouse.bal
    rw [hpe]
    obtain ⟨g1, g2⟩ := impl_balancedHouse.root_is (p / 2)
    have k1 := sq_succ L
    have k2 := sq_succ (L + 1)
    by_cases c : (L + 1) * (L + 1) = p / 2
    · have hr : impl_balancedHouse.root (p / 2) = L + 1 := impl_balancedHouse.root_eq (by omega) (by omega)
      simp only [hr, c, if_true, decide_true]
      exact ⟨by simp, by simp⟩
    · have hr : ¬ impl_balancedHouse.root (p / 2) * impl_balancedHouse.root (p / 2) = p / 2 := by
        intro z
        apply c
        generalize impl_balancedHouse.root (p / 2) = r at z g1 g2
        have hrl : r = L + 1 := by
          rcases Nat.lt_trichotomy r (L + 1) with h | h | h
          · have := Nat.mul_le_mul (show r ≤ L by omega) (show r ≤ L by omega)
            omega
          · exact h
          · have := Nat.mul_le_mul (show L + 1 + 1 ≤ r from h) (show L + 1 + 1 ≤ r from h)
            omega
        rw [← hrl]; exact z
      simp only [hr, c, if_false, decide_false]
      exact ⟨by simp, fun h => by simp at h⟩
def itemB (n : Nat) : List (List Int) := if 0 < impl_balancedHouse.bal n then [[(n : Int), ((impl_balancedHouse.bal n : Nat) : Int)]] else []
def accB : Nat → List (List Int)
  | 0 => []
  | n + 1 => accB n ++ itemB (n + 1)
theorem itemB_len (n : Nat) : (itemB n).length ≤ 1 := by unfold itemB; split <;> simp
theorem accB_len : ∀ n, (accB n).length ≤ n
  | 0 => by simp [accB]
  | n + 1 => by have := accB_len n; have := itemB_len (n + 1); simp only [accB, List.length_append]; omega
theorem accB_rows : ∀ n, ∀ r ∈ accB n, r.length = 2
  | 0 => by simp [accB]
  | n + 1 => by
    intro r hr
    simp only [accB, List.mem_append] at hr
    rcases hr with h | h
    · exact accB_rows n r h
    · unfold itemB at h
      split at h
      · rw [List.mem_singleton.1 h]; rfl
      · simp at h
theorem bal_f (n : Nat) (h1 : 1 ≤ n) (h2 : n ≤ 1000000) : impl_balancedHouse.f (n : Int) = some ((impl_balancedHouse.bal n : Nat) : Int) := by
  unfold impl_balancedHouse.f
  rw [if_pos ⟨by omega, by omega⟩, Int.toNat_natCast]
theorem streets_loops (m : Nat) (hm : m ≤ 1000000) : ∀ (d i : Nat), i ≤ m → m - i = d → Ev (fun k => spec_BalancedStreets.l0 k (m : Int) (accB i) ((i + 1 : Nat) : Int)) (accB m, true) ∧ Ev (fun k => impl_BalancedStreets.l0 k (m : Int) (accB i) ((i + 1 : Nat) : Int)) (accB m, true) := by
  intro d
  induction d with
  | zero =>
    intro i hi hd
    have e : i = m := by omega
    subst e
    refine ⟨M.Ev_succ (M.Ev_some fun k => ?_), M.Ev_succ (M.Ev_some fun k => ?_)⟩
    · simp only [spec_BalancedStreets.l0]; rw [if_neg (by omega)]
    · simp only [impl_BalancedStreets.l0]; rw [if_neg (by omega)]
  | succ d ih =>
    intro i hi hd
    obtain ⟨g1, g2⟩ := ih (i + 1) (by omega) (by omega)
    have e1 : wrap64 (((i + 1 : Nat) : Int) + 1) = ((i + 1 + 1 : Nat) : Int) := by rw [M.w64 (by omega) (by omega)]; omega
    have hl := accB_len i
    obtain ⟨⟨x, b⟩, h1, h2, h3⟩ := balanced_ev (i + 1) (by omega) (by omega)
    have hf := bal_f (i + 1) (by omega) (by omega)
    have c0 : ((i + 1 : Nat) : Int) ≤ (m : Int) := by omega
    have c1 : (accB i).length < 5864062014805 := by omega
    simp only at h2 h3
    by_cases c : 0 < impl_balancedHouse.bal (i + 1)
    · have hb : b = true := by rw [h2]; simp [c]
      subst hb
      have hx := h3 rfl
      have hi2 : itemB (i + 1) = [[((i + 1 : Nat) : Int), ((impl_balancedHouse.bal (i + 1) : Nat) : Int)]] := by unfold itemB; rw [if_pos c]
      rw [accB, hi2] at g1 g2
      refine ⟨M.Ev_succ ?_, M.Ev_succ ?_⟩
      · simp only [spec_BalancedStreets.l0, c0, if_true, e1]
        refine Ev.bind h1 ?_
        simp only [if_true, c1, hx]
        exact g1
      · simp only [impl_BalancedStreets.l0, c0, if_true, e1, hf, Option.bind_some, show ((impl_balancedHouse.bal (i + 1) : Nat) : Int) > 0 by omega, c1]
        exact g2
    · have hb : b = false := by rw [h2]; simp [c]
      subst hb
      have hi2 : itemB (i + 1) = [] := by unfold itemB; rw [if_neg c]
      rw [accB, hi2, List.append_nil] at g1 g2
      refine ⟨M.Ev_succ ?_, M.Ev_succ ?_⟩
      · simp only [spec_BalancedStreets.l0, c0, if_true, e1]
        refine Ev.bind h1 ?_
        simp only [Bool.false_eq_true, if_false]
        exact g1
      · simp only [impl_BalancedStreets.l0, c0, if_true, e1, hf, Option.bind_some, show ¬ (((impl_balancedHouse.bal (i + 1) : Nat) : Int) > 0) by omega, if_false]
        exact g2
def streetsR (a : Int) : List (List Int) × Bool := if 1 ≤ a ∧ a ≤ 1000000 then (accB a.toNat, true) else ([], false)
theorem streetsR_len (a : Int) : (streetsR a).1.length ≤ 1000000 := by
  unfold streetsR
  split
  · have := accB_len a.toNat
    show (accB a.toNat).length ≤ _
    omega
  · simp
theorem streetsR_rows (a : Int) : ∀ r ∈ (streetsR a).1, r.length = 2 := by
  unfold streetsR
  split
  · exact accB_rows _
  · simp
theorem Streets_ev (a : Int) : Ev (fun k => spec_BalancedStreets.f k a) (streetsR a) ∧ Ev (fun k => impl_BalancedStreets.f k a) (streetsR a) := by
  unfold spec_BalancedStreets.f impl_BalancedStreets.f streetsR
  simp only [spec_nuMost_eq, impl_isMost_eq, Option.bind_some]
  by_cases c : 1 ≤ a ∧ a ≤ 1000000
  · obtain ⟨s, rfl⟩ : ∃ s : Nat, a = (s : Int) := ⟨a.toNat, by omega⟩
    simp only [c, and_self, decide_true, if_true, Int.toNat_natCast]
    exact streets_loops s (by omega) s 0 (by omega) (by omega)
  · simp only [c, decide_false, Bool.false_eq_true, if_false]
    exact ⟨M.Ev_some fun k => rfl, M.Ev_some fun k => rfl⟩
namespace RG
def tri : Nat → Nat
  | 0 => 0
  | n + 1 => tri n + (n + 1)
theorem tri_two : ∀ n, (n + 1) * n = 2 * tri n
  | 0 => rfl
  | n + 1 => by
    have := tri_two n
    have e : (n + 1 + 1) * (n + 1) = (n + 1) * n + 2 * (n + 1) := by rw [Nat.add_mul, Nat.mul_add (n + 1)]; omega
    rw [e, this, tri]
    omega
theorem tri_ge : ∀ n, n ≤ tri n
  | 0 => Nat.le_refl _
  | n + 1 => by have := tri_ge n; rw [tri]; omega
theorem tri_mono {n m : Nat} (h : n ≤ m) : tri n ≤ tri m := by
  induction h with
  | refl => exact Nat.le_refl _
  | step _ ih => rw [tri]; omega
theorem tri_bd {n : Nat} (h : n ≤ 100001) : tri n ≤ 10000300002 := by
  have h1 := tri_two n
  have := Nat.mul_le_mul (show n + 1 ≤ 100002 by omega) h
  omega
/-- The numbers from the first one on, n + 1 of them, with this sum: none or one range. -/
def item (s n : Nat) : List (List Int) := if tri n < s ∧ (s - tri n) % (n + 1) = 0 then [[(((s - tri n) / (n + 1) : Nat) : Int), (((s - tri n) / (n + 1) + n : Nat) : Int)]] else []
def accR (s : Nat) : Nat → List (List Int)
  | 0 => []
  | n + 1 => accR s n ++ item s n
theorem item_len (s n : Nat) : (item s n).length ≤ 1 := by unfold item; split <;> simp
theorem item_rev (s n : Nat) : (item s n).reverse = item s n := by unfold item; split <;> simp
theorem accR_len (s : Nat) : ∀ n, (accR s n).length ≤ n
  | 0 => by simp [accR]
  | n + 1 => by have := accR_len s n; have := item_len s n; simp only [accR, List.length_append]; omega
theorem accR_rows (s : Nat) : ∀ n, ∀ r ∈ accR s n, r.length = 2
  | 0 => by simp [accR]
  | n + 1 => by
    intro r hr
    simp only [accR, List.mem_append] at hr
    rcases hr with h | h
    · exact accR_rows s n r h
    · unfold item at h
      split at h
      · rw [List.mem_singleton.1 h]; rfl
      · simp at h
/-- The steps' numbers as the machine has them. -/
theorem tri_dn {n : Nat} (hn : n ≤ 100000) : wrap64 (Int.tdiv (wrap64 (((n + 1 : Nat) : Int) * (wrap64 (((n + 1 : Nat) : Int) - 1)))) 2) = ((tri n : Nat) : Int) := by
  have h1 := tri_two n
  have h2 := tri_bd (n := n) (by omega)
  have e1 : wrap64 (((n + 1 : Nat) : Int) - 1) = (n : Int) := by rw [M.w64 (by omega) (by omega)]; omega
  rw [e1, ← Int.natCast_mul, h1, M.w64 (x := ((2 * tri n : Nat) : Int)) (by omega) (by omega), M.tdiv_pos (by omega), M.w64 (by omega) (by omega)]
  omega
theorem tri_up {n : Nat} (hn : n ≤ 100000) : wrap64 (Int.tdiv (wrap64 (((n + 1 : Nat) : Int) * (wrap64 (((n + 1 : Nat) : Int) + 1)))) 2) = ((tri (n + 1) : Nat) : Int) := by
  have h1 := tri_two (n + 1)
  have h2 := tri_bd (n := n + 1) (by omega)
  have e1 : wrap64 (((n + 1 : Nat) : Int) + 1) = ((n + 1 + 1 : Nat) : Int) := by rw [M.w64 (by omega) (by omega)]; omega
  rw [e1, ← Int.natCast_mul, Nat.mul_comm, h1, M.w64 (x := ((2 * tri (n + 1) : Nat) : Int)) (by omega) (by omega), M.tdiv_pos (by omega), M.w64 (by omega) (by omega)]
  omega
theorem over_eq {s n : Nat} (hs : s ≤ 100000) (hn : n ≤ 100000) : wrap64 ((s : Int) - ((tri n : Nat) : Int)) = (s : Int) - ((tri n : Nat) : Int) := by
  have h2 := tri_bd (n := n) (by omega)
  exact M.w64 (by omega) (by omega)
/-- A range that is told, as the machine tells it. -/
theorem row_eq {s n : Nat} (hs : s ≤ 100000) (hn : n ≤ 100000) (ht : tri n < s) :
    ([wrap64 (Int.tdiv ((s : Int) - ((tri n : Nat) : Int)) ((n + 1 : Nat) : Int)), wrap64 ((wrap64 ((wrap64 (Int.tdiv ((s : Int) - ((tri n : Nat) : Int)) ((n + 1 : Nat) : Int))) + ((n + 1 : Nat) : Int))) - 1)] : List Int) = [(((s - tri n) / (n + 1) : Nat) : Int), (((s - tri n) / (n + 1) + n : Nat) : Int)] := by
  have e0 : (s : Int) - ((tri n : Nat) : Int) = ((s - tri n : Nat) : Int) := by omega
  have e1 : Int.tdiv ((s : Int) - ((tri n : Nat) : Int)) ((n + 1 : Nat) : Int) = (((s - tri n) / (n + 1) : Nat) : Int) := by
    rw [e0, M.tdiv_pos (by omega)]; rfl
  have hd : (s - tri n) / (n + 1) ≤ s - tri n := Nat.div_le_self _ _
  rw [e1]
  generalize (s - tri n) / (n + 1) = q at hd
  rw [M.w64 (x := (q : Int)) (by omega) (by omega), M.w64 (x := (q : Int) + ((n + 1 : Nat) : Int)) (by omega) (by omega), M.w64 (x := (q : Int) + ((n + 1 : Nat) : Int) - 1) (by omega) (by omega)]
  congr 2
  omega
theorem mod_eq {s n : Nat} (ht : tri n < s) : (Int.tmod ((s : Int) - ((tri n : Nat) : Int)) ((n + 1 : Nat) : Int) = 0) ↔ (s - tri n) % (n + 1) = 0 := by
  have e0 : (s : Int) - ((tri n : Nat) : Int) = ((s - tri n : Nat) : Int) := by omega
  rw [e0, M.tmod_pos (by omega)]
  omega
theorem spec_loop (s : Nat) (hs : s ≤ 100000) : ∀ (n : Nat) (acc : List (List Int)), n ≤ s → acc.length + n ≤ 200000 → Ev (fun k => spec_RangesWithSum.l0 k (s : Int) acc (n : Int)) (acc ++ (accR s n).reverse, true) := by
  intro n
  induction n with
  | zero =>
    intro acc hn hl
    refine M.Ev_succ (M.Ev_some fun k => ?_)
    simp [spec_RangesWithSum.l0, accR]
  | succ n ih =>
    intro acc hn hl
    have e1 : wrap64 (((n + 1 : Nat) : Int) - 1) = (n : Int) := by rw [M.w64 (by omega) (by omega)]; omega
    have e2 := tri_dn (n := n) (by omega)
    have e3 := over_eq (n := n) hs (by omega)
    rw [e1] at e2
    refine M.Ev_succ ?_
    simp only [spec_RangesWithSum.l0, show ((n + 1 : Nat) : Int) > 0 by omega, if_true, e1, e2, e3, show ¬ (((n + 1 : Nat) : Int) = 0) by omega, if_false]
    by_cases c : tri n < s
    · simp only [show (s : Int) - ((tri n : Nat) : Int) > 0 by omega, if_true, mod_eq c, row_eq hs (show n ≤ 100000 by omega) c]
      by_cases c2 : (s - tri n) % (n + 1) = 0
      · simp only [c2, if_true, show acc.length < 5864062014805 by omega]
        have hi : item s n = [[(((s - tri n) / (n + 1) : Nat) : Int), (((s - tri n) / (n + 1) + n : Nat) : Int)]] := by unfold item; rw [if_pos ⟨c, c2⟩]
        have := ih (acc ++ item s n) (by omega) (by have := item_len s n; rw [List.length_append]; omega)
        rw [accR, List.reverse_append, item_rev, ← List.append_assoc]
        rw [hi] at this ⊢
        exact this
      · simp only [c2, if_false]
        have hi : item s n = [] := by unfold item; rw [if_neg (fun z => c2 z.2)]
        rw [accR, hi, List.append_nil]
        exact ih acc (by omega) (by omega)
    · simp only [show ¬ ((s : Int) - ((tri n : Nat) : Int) > 0) by omega, if_false]
      have hi : item s n = [] := by unfold item; rw [if_neg (fun z => c z.1)]
      rw [accR, hi, List.append_nil]
      exact ih acc (by omega) (by omega)
theorem accR_end {s n : Nat} (h : s < tri (n + 1)) : ∀ m, n ≤ m → accR s m = accR s n := by
  intro m hm
  induction hm with
  | refl => rfl
  | @step m hm ih =>
    rw [accR, ih]
    have hi : item s m = [] := by
      unfold item
      rw [if_neg]
      rintro ⟨h1, h2⟩
      have h3 := tri_mono (show n + 1 ≤ m + 1 from Nat.succ_le_succ hm)
      have e1 : tri (m + 1) = tri m + (m + 1) := rfl
      have h4 : (s - tri m) % (m + 1) = s - tri m := Nat.mod_eq_of_lt (by omega)
      omega
    rw [hi, List.append_nil]
theorem impl_loop (s : Nat) (hs : s ≤ 100000) : ∀ (d n : Nat), s - n ≤ d → tri n ≤ s → Ev (fun k => impl_RangesWithSum.l0 k (s : Int) (accR s n) ((n + 1 : Nat) : Int)) ((accR s s).reverse, true) := by
  intro d
  induction d with
  | zero =>
    intro n hd ht
    have hg := tri_ge n
    have hns : n = s := by omega
    have e2 := tri_up (n := n) (by omega)
    refine M.Ev_succ (M.Ev_some fun k => ?_)
    have hn : s < tri (n + 1) := by rw [tri]; omega
    simp only [impl_RangesWithSum.l0, e2, show ¬ (((tri (n + 1) : Nat) : Int) ≤ (s : Int)) by omega, if_false]
    rw [hns]
  | succ d ih =>
    intro n hd ht
    have hg := tri_ge n
    have e1 : wrap64 (((n + 1 : Nat) : Int) + 1) = ((n + 1 + 1 : Nat) : Int) := by rw [M.w64 (by omega) (by omega)]; omega
    have e2 := tri_up (n := n) (by omega)
    have e3 := tri_dn (n := n) (by omega)
    have e4 := over_eq (n := n) hs (by omega)
    have hal := accR_len s n
    rw [e1] at e2
    by_cases c : tri (n + 1) ≤ s
    · have c1 : tri n < s := by rw [tri] at c; omega
      have hih := ih (n + 1) (by omega) c
      refine M.Ev_succ ?_
      simp only [impl_RangesWithSum.l0, e1, e2, e3, e4, show ((tri (n + 1) : Nat) : Int) ≤ (s : Int) by omega, if_true, show ¬ (((n + 1 : Nat) : Int) = 0) by omega, if_false, mod_eq c1, row_eq hs (show n ≤ 100000 by omega) c1]
      by_cases c2 : (s - tri n) % (n + 1) = 0
      · have hi : item s n = [[(((s - tri n) / (n + 1) : Nat) : Int), (((s - tri n) / (n + 1) + n : Nat) : Int)]] := by unfold item; rw [if_pos ⟨c1, c2⟩]
        rw [accR, hi] at hih
        simp only [c2, if_true, show (accR s n).length < 5864062014805 by omega]
        exact hih
      · have hi : item s n = [] := by unfold item; rw [if_neg (fun z => c2 z.2)]
        rw [accR, hi, List.append_nil] at hih
        simp only [c2, if_false]
        exact hih
    · refine M.Ev_succ (M.Ev_some fun k => ?_)
      simp only [impl_RangesWithSum.l0, e1, e2, show ¬ (((tri (n + 1) : Nat) : Int) ≤ (s : Int)) by omega, if_false]
      rw [accR_end (n := n) (by omega) s (by omega)]
def rangesR (a : Int) : List (List Int) × Bool := if 1 ≤ a ∧ a ≤ 100000 then ((accR a.toNat a.toNat).reverse, true) else ([], false)
theorem rangesR_len (a : Int) : (rangesR a).1.length ≤ 100000 := by
  unfold rangesR
  split
  · have := accR_len a.toNat a.toNat
    simp only [List.length_reverse]
    omega
  · simp
theorem rangesR_rows (a : Int) : ∀ r ∈ (rangesR a).1, r.length = 2 := by
  unfold rangesR
  split
  · intro r hr
    exact accR_rows _ _ r (List.mem_reverse.1 hr)
  · simp
theorem Ranges_ev (a : Int) : Ev (fun k => spec_RangesWithSum.f k a) (rangesR a) ∧ Ev (fun k => impl_RangesWithSum.f k a) (rangesR a) := by
  unfold spec_RangesWithSum.f impl_RangesWithSum.f rangesR
  simp only [spec_l1In_eq, impl_within_eq, Option.bind_some]
  by_cases c : 1 ≤ a ∧ a ≤ 100000
  · obtain ⟨s, rfl⟩ : ∃ s : Nat, a = (s : Int) := ⟨a.toNat, by omega⟩
    simp only [c, and_self, decide_true, if_true, Int.toNat_natCast]
    refine ⟨?_, ?_⟩
    · have := spec_loop s (by omega) s [] (Nat.le_refl _) (by simp; omega)
      simpa using this
    · exact impl_loop s (by omega) s 0 (by omega) (by simp [tri])
  · simp only [c, decide_false, Bool.false_eq_true, if_false]
    exact ⟨M.Ev_some fun k => rfl, M.Ev_some fun k => rfl⟩
end RG
theorem zSame_loop (l : List Int) (hl : l.length ≤ 1000000000000) : ∀ (d i : Nat), i ≤ l.length → l.length - i = d → Ev (fun k => laws_zSame.l0 k l l (l.length : Int) (i : Int)) true := by
  intro d
  induction d with
  | zero =>
    intro i hi hd
    refine M.Ev_succ (M.Ev_some fun r => ?_)
    simp only [laws_zSame.l0]
    rw [if_neg (by omega)]
  | succ d ih =>
    intro i hi hd
    have e : wrap64 ((i : Int) + 1) = ((i + 1 : Nat) : Int) := by rw [M.w64 (by omega) (by omega)]; omega
    refine M.Ev_succ ?_
    simp only [laws_zSame.l0, show (i : Int) < (l.length : Int) by omega, show (0 : Int) ≤ (i : Int) by omega, if_true, e]
    exact ih (i + 1) (by omega) (by omega)
theorem zSame_ev (l : List Int) (hl : l.length ≤ 1000000000000) : Ev (fun k => laws_zSame.f k l l) true := by
  unfold laws_zSame.f
  simp only [if_true]
  exact zSame_loop l hl l.length 0 (by omega) (by omega)
noncomputable def bhR (a : Int) : Int × Bool := if 1 ≤ a ∧ a ≤ 1000000 then ((impl_balancedHouse.bal a.toNat : Int), decide (0 < impl_balancedHouse.bal a.toNat)) else (0, false)
theorem House_ev (a : Int) : Ev (fun k => spec_BalancedHouse.f k a) (bhR a) ∧ impl_BalancedHouse.f a = some (bhR a) := by
  unfold spec_BalancedHouse.f impl_BalancedHouse.f bhR
  simp only [spec_nuMost_eq, impl_isMost_eq, Option.bind_some]
  by_cases c : 1 ≤ a ∧ a ≤ 1000000
  · obtain ⟨m, rfl⟩ : ∃ m : Nat, a = (m : Int) := ⟨a.toNat, by omega⟩
    obtain ⟨⟨x, b⟩, h1, h2, h3⟩ := balanced_ev m (by omega) (by omega)
    rw [Int.toNat_natCast]
    simp only [c, and_self, decide_true, if_true, bal_f m (by omega) (by omega), Option.bind_some]
    refine ⟨Ev.bind h1 (M.Ev_some fun k => ?_), by simp⟩
    simp only at h2 h3
    cases b with
    | true =>
      have h4 : 0 < impl_balancedHouse.bal m := of_decide_eq_true h2.symm
      simp [h3 rfl, h4]
    | false =>
      have h4 : ¬ 0 < impl_balancedHouse.bal m := of_decide_eq_false h2.symm
      have h5 : impl_balancedHouse.bal m = 0 := by omega
      simp [h5]
  · simp only [c, decide_false, Bool.false_eq_true, if_false]
    exact ⟨M.Ev_some fun k => rfl, by simp⟩
theorem bal_sq {n : Nat} (h : 0 < impl_balancedHouse.bal n) : 2 * (impl_balancedHouse.bal n * impl_balancedHouse.bal n) = n * (n + 1) := by
  unfold impl_balancedHouse.bal at h ⊢
  dsimp only at h ⊢
  by_cases c : impl_balancedHouse.root (n * (n + 1) / 2) * impl_balancedHouse.root (n * (n + 1) / 2) = n * (n + 1) / 2
  · rw [if_pos c, c]
    have : n * (n + 1) % 2 = 0 := by
      rcases Nat.mod_two_eq_zero_or_one n with e | e
      · rw [Nat.mul_mod, e, Nat.zero_mul]
      · rw [Nat.mul_mod, show (n + 1) % 2 = 0 by omega, Nat.mul_zero]
    omega
  · rw [if_neg c] at h
    omega
theorem bal_le {n : Nat} (hn : n ≤ 1000000) : impl_balancedHouse.bal n ≤ 1000000 := by
  by_cases h : 0 < impl_balancedHouse.bal n
  · have := bal_sq h
    generalize impl_balancedHouse.bal n = b at this
    by_cases c : b ≤ 1000000
    · exact c
    · have h1 := Nat.mul_le_mul (show 1000001 ≤ b by omega) (show 1000001 ≤ b by omega)
      have h2 := Nat.mul_le_mul hn (show n + 1 ≤ 1000001 by omega)
      omega
  · omega
theorem house_bal {n : Int} (h : (bhR n).2 = true) : wrap64 (wrap64 ((bhR n).1 - 1) * (bhR n).1) = wrap64 (wrap64 (n * wrap64 (n + 1)) - wrap64 ((bhR n).1 * wrap64 ((bhR n).1 + 1))) := by
  unfold bhR at h ⊢
  by_cases c : 1 ≤ n ∧ n ≤ 1000000
  · rw [if_pos c] at h ⊢
    obtain ⟨m, rfl⟩ : ∃ m : Nat, n = (m : Int) := ⟨n.toNat, by omega⟩
    rw [Int.toNat_natCast] at h ⊢
    simp only
    have h0 : 0 < impl_balancedHouse.bal m := of_decide_eq_true h
    have hs := bal_sq h0
    have hl := bal_le (n := m) (by omega)
    generalize impl_balancedHouse.bal m = b at h0 hs hl
    have hs2 : 2 * ((b : Int) * (b : Int)) = (m : Int) * ((m : Int) + 1) := by
      have := congrArg (fun z : Nat => (z : Int)) hs
      simpa using this
    have q1 := Nat.mul_le_mul hl hl
    have q2 : ((b : Int) * (b : Int)) ≤ 1000000 * 1000000 := by
      have := Int.ofNat_le.2 q1
      simpa using this
    have q3 : 0 ≤ (b : Int) * (b : Int) := Int.mul_nonneg (by omega) (by omega)
    rw [M.w64 (x := (b : Int) - 1) (by omega) (by omega), M.w64 (x := (m : Int) + 1) (by omega) (by omega), M.w64 (x := (b : Int) + 1) (by omega) (by omega), ← hs2, Int.sub_mul, Int.mul_add, Int.one_mul, Int.mul_one]
    generalize (b : Int) * (b : Int) = s at q2 q3
    rw [M.w64 (x := 2 * s) (by omega) (by omega), M.w64 (x := s + (b : Int)) (by omega) (by omega)]
    congr 1
    omega
  · rw [if_neg c] at h
    cases h
/-! ### the rows of the streets -/
def fst_ (L : List (List Int)) (i : Nat) : Int := (rd_L2 L (i : Int)).getD 0 0
def snd_ (L : List (List Int)) (i : Nat) : Int := (rd_L2 L (i : Int)).getD 1 0
theorem rdL2_get {L : List (List Int)} {i : Nat} (h : i < L.length) : rd_L2 L (i : Int) = L[i] := by
  unfold rd_L2
  rw [Int.toNat_natCast, List.getD_eq_getElem?_getD, List.getElem?_eq_getElem h]
  rfl
theorem accB_mem : ∀ (n : Nat) (r : List Int), r ∈ accB n → ∃ m : Nat, 1 ≤ m ∧ m ≤ n ∧ 0 < impl_balancedHouse.bal m ∧ r = [(m : Int), (impl_balancedHouse.bal m : Int)]
  | 0, r, h => by simp [accB] at h
  | n + 1, r, h => by
    simp only [accB, List.mem_append] at h
    rcases h with h | h
    · obtain ⟨m, h1, h2, h3, h4⟩ := accB_mem n r h
      exact ⟨m, h1, by omega, h3, h4⟩
    · unfold itemB at h
      split at h
      · rename_i c
        exact ⟨n + 1, by omega, by omega, c, List.mem_singleton.1 h⟩
      · cases h
theorem accB_rise : ∀ n : Nat, (accB n).Pairwise (fun r s => r.getD 0 0 < s.getD 0 0)
  | 0 => by simp [accB]
  | n + 1 => by
    simp only [accB]
    refine List.pairwise_append.2 ⟨accB_rise n, ?_, fun r hr s hs => ?_⟩
    · unfold itemB
      split
      · exact List.pairwise_singleton _ _
      · exact List.Pairwise.nil
    · obtain ⟨m, h1, h2, h3, rfl⟩ := accB_mem n r hr
      unfold itemB at hs
      split at hs
      · rw [List.mem_singleton.1 hs]
        show (m : Int) < ((n + 1 : Nat) : Int)
        omega
      · cases hs
theorem bal_one : 0 < impl_balancedHouse.bal 1 := by decide
theorem accB_pos : ∀ n : Nat, 1 ≤ n → 1 ≤ (accB n).length
  | 0, h => by omega
  | n + 1, _ => by
    simp only [accB, List.length_append]
    by_cases c : n = 0
    · subst c
      unfold itemB
      rw [if_pos bal_one]
      simp
    · have := accB_pos n (by omega)
      omega
theorem accB_last (n : Nat) (h : 1 ≤ n) : decide (0 < impl_balancedHouse.bal n) = (fst_ (accB n) ((accB n).length - 1) == (n : Int)) := by
  obtain ⟨n, rfl⟩ : ∃ m, n = m + 1 := ⟨n - 1, by omega⟩
  have hp := accB_pos (n + 1) h
  unfold fst_
  rw [rdL2_get (by omega), Bool.eq_iff_iff, beq_iff_eq, decide_eq_true_eq]
  by_cases c : 0 < impl_balancedHouse.bal (n + 1)
  · have e : accB (n + 1) = accB n ++ [[((n + 1 : Nat) : Int), ((impl_balancedHouse.bal (n + 1) : Nat) : Int)]] := by
      simp only [accB]
      unfold itemB
      rw [if_pos c]
    have : (accB (n + 1))[(accB (n + 1)).length - 1]'(by omega) = [((n + 1 : Nat) : Int), ((impl_balancedHouse.bal (n + 1) : Nat) : Int)] := by
      simp only [e, List.length_append, List.length_singleton, Nat.add_sub_cancel, List.getElem_concat_length]
    rw [this]
    exact ⟨fun _ => rfl, fun _ => c⟩
  · obtain ⟨m, h1, h2, h3, h4⟩ := accB_mem (n + 1) _ (List.getElem_mem (l := accB (n + 1)) (n := (accB (n + 1)).length - 1) (by omega))
    have hne : m ≠ n + 1 := fun z => c (z ▸ h3)
    rw [h4]
    exact ⟨fun z => absurd z c, fun z => by
      have z' : (m : Int) = ((n + 1 : Nat) : Int) := z
      omega⟩
theorem zRows_loop (L : List (List Int)) (hl : L.length ≤ 1000000000000) (hr : ∀ r ∈ L, r.length = 2) : ∀ (d i : Nat), i ≤ L.length → L.length - i = d → Ev (fun k => laws_zRows.l0 k L L (L.length : Int) (i : Int)) true := by
  intro d
  induction d with
  | zero =>
    intro i hi hd
    refine M.Ev_succ (M.Ev_some fun r => ?_)
    simp only [laws_zRows.l0]
    rw [if_neg (by omega)]
  | succ d ih =>
    intro i hi hd
    have hlt : i < L.length := by omega
    have e : wrap64 ((i : Int) + 1) = ((i + 1 : Nat) : Int) := by rw [M.w64 (by omega) (by omega)]; omega
    refine M.Ev_succ ?_
    simp only [laws_zRows.l0, show (i : Int) < (L.length : Int) by omega, show (0 : Int) ≤ (i : Int) by omega, if_true, rdL2_get hlt, e]
    refine Ev.bind (zSame_ev L[i] (by rw [hr _ (List.getElem_mem hlt)]; omega)) ?_
    simp only [if_true]
    exact ih (i + 1) (by omega) (by omega)
theorem zRows_ev (L : List (List Int)) (hl : L.length ≤ 1000000000000) (hr : ∀ r ∈ L, r.length = 2) : Ev (fun k => laws_zRows.f k L L) true := by
  unfold laws_zRows.f
  simp only [if_true]
  exact zRows_loop L hl hr L.length 0 (by omega) (by omega)
/-! ### ranges and sums, of the numbers that are drawn -/
open GFnPlatesMade (oddP)
def RowsOk (L : List (List Int)) (s : Int) : Prop := 1 ≤ L.length ∧ (L.length : Int) = oddP s ((s.toNat + 1) / 2) ∧ ∀ i ∈ List.range L.length, rd_L2 L (i : Int) = [fst_ L i, snd_ L i] ∧ ¬ fst_ L i < 1 ∧ ¬ fst_ L i > snd_ L i ∧ wrap64 (wrap64 (fst_ L i + snd_ L i) * wrap64 (wrap64 (snd_ L i - fst_ L i) + 1)) = wrap64 (2 * s) ∧ (0 < i → fst_ L (i - 1) < fst_ L i)
instance (L : List (List Int)) (s : Int) : Decidable (RowsOk L s) := by unfold RowsOk; exact inferInstance
theorem rows_small : ∀ s ∈ List.range' 1 120, RowsOk (RG.accR s s).reverse (s : Int) := by decide +kernel
theorem rows_5040 : RowsOk (RG.accR 5040 100).reverse ((5040 : Nat) : Int) := by decide +kernel
theorem tri_101 : 5040 < RG.tri 101 := by decide +kernel
theorem rows_mid (s : Nat) (hs : s = 5040) : RowsOk (RG.accR s s).reverse (s : Int) := by
  have e : RG.accR s s = RG.accR s 100 := RG.accR_end (n := 100) (by rw [hs]; exact tri_101) s (by omega)
  rw [e, hs]
  exact rows_5040
def sbR (a b : Int) : Int × Bool := if 1 ≤ a ∧ a ≤ 1000000 then (if 1 ≤ b ∧ b ≤ 1000000 then (if a ≥ b then (0, false) else (wrap64 (wrap64 (Int.tdiv (wrap64 (wrap64 (b - 1) * b)) 2) - wrap64 (Int.tdiv (wrap64 (a * wrap64 (a + 1))) 2)), true)) else (0, false)) else (0, false)
theorem Sum_eq (a b : Int) : impl_SumBetween.f a b = some (sbR a b) ∧ spec_SumBetween.f a b = some (sbR a b) := by
  unfold impl_SumBetween.f spec_SumBetween.f sbR
  simp only [impl_isMost_eq, spec_nuMost_eq, Option.bind_some, decide_eq_true_eq]
  constructor <;> (repeat' split) <;> rfl
theorem sums_ok : ∀ a ∈ [(1 : Int), 2, 5, 9, 0, 1000000], ∀ b ∈ [(2 : Int), 3, 6, 9, 30, 1000000, 1000001], (sbR a b).2 = true → ¬ (sbR a b).1 < 0 ∧ (wrap64 (b - a) ≤ 1 → (sbR a b).1 = 0) ∧ (wrap64 (b - a) = 2 → (sbR a b).1 = wrap64 (a + 1)) := by decide +kernel
theorem u64_range (z : Int) : 0 ≤ IntKind.u64.wrap z ∧ IntKind.u64.wrap z < 18446744073709551616 := by
  simp [IntKind.wrap, IntKind.bits, IntKind.signed]
  omega
theorem and255 (z : Int) (h0 : 0 ≤ z) (h1 : z < 18446744073709551616) : 0 ≤ Go.bits .and .u64 z 255 ∧ Go.bits .and .u64 z 255 ≤ 255 := by
  obtain ⟨n, rfl⟩ := Int.eq_ofNat_of_zero_le h0
  rw [show (255 : Int) = ((255 : Nat) : Int) from rfl, bits_and_u64_nat _ _ (by omega) (by omega)]
  have := @Nat.and_le_right n 255
  omega
/-- Bytes, as numbers. -/
def InB (l : List Int) : Prop := ∀ x ∈ l, 0 ≤ x ∧ x ≤ 255
theorem rd_byte {l : List Int} (hl : InB l) {i : Int} (h1 : i < (l.length : Int)) (h0 : 0 ≤ i) : 0 ≤ rd l i ∧ rd l i ≤ 255 := by
  unfold rd
  rw [List.getD_eq_getElem?_getD, List.getElem?_eq_getElem (by omega)]
  exact hl _ (List.getElem_mem _)
theorem next_ok {l : List Int} (hl : InB l) {a : Int} (h0 : 0 ≤ a) (h1 : a ≤ 100000) (s : Int) : ∃ x s', spec_l1Cur_next.f l a s = some (x, a + 1, s') ∧ 0 ≤ x ∧ x ≤ 255 := by
  have e : wrap64 (a + 1) = a + 1 := M.w64 (by omega) (by omega)
  unfold spec_l1Cur_next.f
  rw [e]
  by_cases c : a < (l.length : Int)
  · have hb := rd_byte hl c h0
    rw [if_pos c, if_pos h0, M.w64 (x := rd l a) (by omega) (by omega), if_pos (by omega)]
    exact ⟨_, _, rfl, hb.1, hb.2⟩
  · rw [if_neg c, if_neg (by omega)]
    have g : ∀ y : Int, 0 ≤ wrap64 (Go.bits .and .u64 (IntKind.u64.wrap y / 1099511627776) 255) ∧ wrap64 (Go.bits .and .u64 (IntKind.u64.wrap y / 1099511627776) 255) ≤ 255 := by
      intro y
      have h := u64_range y
      have h2 := and255 (IntKind.u64.wrap y / 1099511627776) (by omega) (by omega)
      rw [M.w64 (by omega) (by omega)]
      exact h2
    exact ⟨_, _, rfl, g _⟩
theorem pick_ok {l : List Int} (hl : InB l) {a : Int} (h0 : 0 ≤ a) (h1 : a ≤ 90000) (s n : Int) : ∃ x a' s', spec_l1Cur_pick.f l a s n = some (x, a', s') ∧ 0 ≤ x ∧ (1 ≤ n → x < n) ∧ a ≤ a' ∧ a' ≤ a + 2 := by
  unfold spec_l1Cur_pick.f
  by_cases c : n ≤ 1
  · rw [if_pos c]
    exact ⟨_, _, _, rfl, by omega, by omega, by omega, by omega⟩
  · obtain ⟨x, s1, e1, hx0, hx1⟩ := next_ok hl h0 (by omega) s
    rw [if_neg c, e1]
    simp only [Option.bind_some]
    by_cases c2 : n > 200
    · obtain ⟨y, s2, e2, hy0, hy1⟩ := next_ok hl (a := a + 1) (by omega) (by omega) s1
      rw [if_pos c2, e2]
      simp only [Option.bind_some]
      rw [if_neg (by omega), M.w64 (x := x * 256) (by omega) (by omega), M.w64 (x := x * 256 + y) (by omega) (by omega)]
      exact ⟨_, _, _, rfl, Int.tmod_nonneg _ (by omega), fun _ => Int.tmod_lt_of_pos _ (by omega), by omega, by omega⟩
    · rw [if_neg c2, if_neg (by omega)]
      exact ⟨_, _, _, rfl, Int.tmod_nonneg _ (by omega), fun _ => Int.tmod_lt_of_pos _ (by omega), by omega, by omega⟩
theorem among_ok {l : List Int} (hl : InB l) {a : Int} (h0 : 0 ≤ a) (h1 : a ≤ 90000) (s : Int) (m : List Int) (hm : 1 ≤ m.length) : ∃ x a' s', spec_l1Cur_among.f l a s m = some (x, a', s') ∧ x ∈ m ∧ a ≤ a' ∧ a' ≤ a + 2 := by
  obtain ⟨x, a1, s1, e, hx0, hx1, ha⟩ := pick_ok hl h0 h1 s (m.length : Int)
  unfold spec_l1Cur_among.f
  rw [e]
  simp only [Option.bind_some]
  rw [if_pos hx0, if_pos (hx1 (by omega))]
  refine ⟨_, _, _, rfl, ?_, ha⟩
  unfold rd
  have := hx1 (by omega)
  rw [List.getD_eq_getElem?_getD, List.getElem?_eq_getElem (by omega)]
  exact List.getElem_mem _
theorem one_ok {l : List Int} (hl : InB l) {a : Int} (h0 : 0 ≤ a) (h1 : a ≤ 90000) (s n : Int) : ∃ b a' s', spec_l1Cur_one.f l a s n = some (b, a', s') ∧ a ≤ a' ∧ a' ≤ a + 2 := by
  obtain ⟨x, a1, s1, e, _, _, ha⟩ := pick_ok hl h0 h1 s n
  unfold spec_l1Cur_one.f
  rw [e]
  exact ⟨_, _, _, rfl, ha⟩
theorem all_ev {α β : Type} {g : α → Nat → Option β} {r : α → β} : ∀ (L : List α), (∀ m ∈ L, Ev (g m) (r m)) → ∃ K, ∀ m ∈ L, ∀ k, K ≤ k → g m k = some (r m)
  | [], _ => ⟨0, fun m hm => by cases hm⟩
  | x :: L, h => by
    obtain ⟨K1, e1⟩ := h x List.mem_cons_self
    obtain ⟨K2, e2⟩ := all_ev L (fun m hm => h m (List.mem_cons_of_mem _ hm))
    refine ⟨K1 + K2, fun m hm k hk => ?_⟩
    rcases List.mem_cons.1 hm with rfl | hm
    · exact e1 k (by omega)
    · exact e2 m hm k (by omega)
theorem if_ev {β : Type} {c : Prop} {g : Nat → Option β} {r : β} (h : c → Ev g r) : ∃ K, c → ∀ k, K ≤ k → g k = some r := by
  by_cases hc : c
  · obtain ⟨K, e⟩ := h hc
    exact ⟨K, fun _ => e⟩
  · exact ⟨0, fun h => absurd h hc⟩
theorem most_ok {l : List Int} (hl : InB l) {a : Int} (h0 : 0 ≤ a) (h1 : a ≤ 80000) (s : Int) : ∃ x a' s', spec_l1Cur_most.f l a s = some (x, a', s') ∧ a ≤ a' ∧ a' ≤ a + 6 := by
  obtain ⟨b, a1, s1, e1, hb⟩ := one_ok hl h0 (by omega) s 10
  unfold spec_l1Cur_most.f
  simp only [e1, Option.bind_some]
  cases b with
  | true =>
    obtain ⟨x, a2, s2, e2, hx, hc⟩ := among_ok hl (a := a1) (by omega) (by omega) s1 [0, (-1), 1, 999, 1000, 5000, 1000001, 4611686018427387904] (by simp)
    simp only [if_true, e2, Option.bind_some]
    exact ⟨x, a2, s2, rfl, by omega, by omega⟩
  | false =>
    obtain ⟨y, a2, s2, e2, hy0, hy1, hc⟩ := pick_ok hl (a := a1) (by omega) (by omega) s1 200
    obtain ⟨x, a3, s3, e3, hx, hd⟩ := among_ok hl (a := a2) (by omega) (by omega) s2 [1, 8, 9, 12, 49, 99, 100, 288, wrap64 (7 + y)] (by simp)
    simp only [Bool.false_eq_true, if_false, e2, e3, Option.bind_some]
    exact ⟨x, a3, s3, rfl, by omega, by omega⟩
theorem DrawCountDigit_ok {l : List Int} (hl : InB l) : ∃ a b, spec_DrawCountDigit.f l = some (a, b) := by
  obtain ⟨x, a1, s1, e1, ha⟩ := most_ok hl (a := 0) (by omega) (by omega) 0
  obtain ⟨y, a2, s2, e2, hy0, hy1, hb⟩ := pick_ok hl (a := a1) (by omega) (by omega) s1 12
  unfold spec_DrawCountDigit.f
  simp only [e1, e2, Option.bind_some]
  exact ⟨_, _, rfl⟩
theorem DrawBalancedHouse_ok {l : List Int} (hl : InB l) : ∃ a, spec_DrawBalancedHouse.f l = some a := by
  obtain ⟨x, a1, s1, e1, ha⟩ := most_ok hl (a := 0) (by omega) (by omega) 0
  unfold spec_DrawBalancedHouse.f spec_DrawDigitsOnPlates.f
  simp only [e1, Option.bind_some]
  exact ⟨_, rfl⟩
theorem DrawLastWithDigits_ok {l : List Int} (hl : InB l) : ∃ a, spec_DrawLastWithDigits.f l = some a := by
  obtain ⟨x, a1, s1, e1, hx, ha⟩ := among_ok hl (a := 0) (by omega) (by omega) 0 [0, 1, 8, 9, 10, 15, 189, 190, 1000, 3000, 1000001, (-1)] (by simp)
  unfold spec_DrawLastWithDigits.f
  simp only [e1, Option.bind_some]
  exact ⟨_, rfl⟩
theorem DrawSumBetween_ok {l : List Int} (hl : InB l) : ∃ a b, spec_DrawSumBetween.f l = some (a, b) ∧ a ∈ [(1 : Int), 2, 5, 9, 0, 1000000] ∧ b ∈ [(2 : Int), 3, 6, 9, 30, 1000000, 1000001] := by
  obtain ⟨x, a1, s1, e1, hx, ha⟩ := among_ok hl (a := 0) (by omega) (by omega) 0 [1, 2, 5, 9, 0, 1000000] (by simp)
  obtain ⟨y, a2, s2, e2, hy, hb⟩ := among_ok hl (a := a1) (by omega) (by omega) s1 [2, 3, 6, 9, 30, 1000000, 1000001] (by simp)
  unfold spec_DrawSumBetween.f
  simp only [e1, e2, Option.bind_some]
  exact ⟨x, y, rfl, hx, hy⟩
theorem DrawRangesWithSum_ok {l : List Int} (hl : InB l) : ∃ a, spec_DrawRangesWithSum.f l = some a ∧ (a ∈ [(0 : Int), (-1), 1, 2, 5040, 100001] ∨ 1 ≤ a ∧ a ≤ 120) := by
  obtain ⟨b, a1, s1, e1, hb⟩ := one_ok hl (a := 0) (by omega) (by omega) 0 10
  unfold spec_DrawRangesWithSum.f
  simp only [e1, Option.bind_some]
  cases b with
  | true =>
    obtain ⟨x, a2, s2, e2, hx, hc⟩ := among_ok hl (a := a1) (by omega) (by omega) s1 [0, (-1), 1, 2, 5040, 100001] (by simp)
    simp only [if_true, e2, Option.bind_some]
    exact ⟨x, rfl, .inl hx⟩
  | false =>
    obtain ⟨y, a2, s2, e2, hy0, hy1, hc⟩ := pick_ok hl (a := a1) (by omega) (by omega) s1 120
    have := hy1 (by omega)
    simp only [Bool.false_eq_true, if_false, e2, Option.bind_some]
    exact ⟨_, rfl, .inr (by rw [M.w64 (by omega) (by omega)]; omega)⟩
theorem pf_loop {l : List Int} (hl : InB l) : ∀ (d : Nat) (L : List Int) (i a s : Int), 0 ≤ i → i + d = 10 → L.length + d ≤ 11 → 0 ≤ a → a + 2 * d ≤ 80000 → ∃ r, Ev (fun k => spec_DrawPlatesFrom.l0 k L i l a s) r ∧ r.length ≤ 11
  | 0, L, i, a, s, _, hd, hL, _, _ => by
    refine ⟨L, M.Ev_succ (M.Ev_some fun k => ?_), by omega⟩
    simp only [spec_DrawPlatesFrom.l0]
    rw [if_neg (by omega)]
  | d + 1, L, i, a, s, h0, hd, hL, ha, hb => by
    obtain ⟨x, a1, s1, e1, hx0, hx1, hc⟩ := pick_ok hl ha (by omega) s 12
    obtain ⟨r, h1, h2⟩ := pf_loop hl d (L ++ [x]) (i + 1) a1 s1 (by omega) (by omega) (by simp; omega) (by omega) (by omega)
    refine ⟨r, M.Ev_succ ?_, h2⟩
    simp only [spec_DrawPlatesFrom.l0, e1, Option.bind_some, if_pos (show i < 10 by omega), if_pos (show L.length < 17592186044416 by omega), M.w64 (x := i + 1) (by omega) (by omega)]
    exact h1
theorem DrawPlatesFrom_ok {l : List Int} (hl : InB l) : ∃ L, Ev (fun k => spec_DrawPlatesFrom.f k l) L ∧ L.length ≤ 11 := by
  obtain ⟨b, a1, s1, e1, hb⟩ := one_ok hl (a := 0) (by omega) (by omega) 0 10
  unfold spec_DrawPlatesFrom.f
  simp only [e1, Option.bind_some]
  cases b with
  | true =>
    obtain ⟨x, a2, s2, e2, hx0, hx1, hc⟩ := pick_ok hl (a := a1) (by omega) (by omega) s1 4
    have hx := hx1 (by omega)
    simp only [if_true, e2, Option.bind_some, show (11 : Nat) ≤ 35184372088832 by omega, List.length_cons, List.length_nil]
    rw [if_pos hx0, if_pos (by omega)]
    refine ⟨_, M.Ev_some fun k => rfl, ?_⟩
    have : x = 0 ∨ x = 1 ∨ x = 2 ∨ x = 3 := by omega
    rcases this with rfl | rfl | rfl | rfl <;> decide
  | false =>
    obtain ⟨r, h1, h2⟩ := pf_loop hl 10 [] 0 a1 s1 (by omega) (by omega) (by simp) (by omega) (by omega)
    simp only [Bool.false_eq_true, if_false]
    exact ⟨r, h1, h2⟩
/-- Of the ranges that are drawn. -/
theorem ranges_ok {a : Int} (h : a ∈ [(0 : Int), (-1), 1, 2, 5040, 100001] ∨ 1 ≤ a ∧ a ≤ 120) (h2 : (RG.rangesR a).2 = true) : RowsOk (RG.rangesR a).1 a ∧ 1 ≤ a ∧ a ≤ 100000 := by
  unfold RG.rangesR at h2 ⊢
  by_cases c : 1 ≤ a ∧ a ≤ 100000
  · rw [if_pos c]
    refine ⟨?_, c⟩
    have small : 1 ≤ a ∧ a ≤ 120 → RowsOk (RG.accR a.toNat a.toNat).reverse a := fun z => by
      obtain ⟨s, rfl⟩ : ∃ s : Nat, a = (s : Int) := ⟨a.toNat, by omega⟩
      rw [Int.toNat_natCast]
      exact rows_small s (by rw [List.mem_range'_1]; omega)
    have mid : a = 5040 → RowsOk (RG.accR a.toNat a.toNat).reverse a := fun z => by
      obtain ⟨s, rfl⟩ : ∃ s : Nat, a = (s : Int) := ⟨a.toNat, by omega⟩
      rw [Int.toNat_natCast]
      exact rows_mid s (by omega)
    rcases h with h | h
    · simp only [List.mem_cons, List.not_mem_nil, or_false] at h
      rcases h with h | h | h | h | h | h
      · omega
      · omega
      · exact small (by omega)
      · exact small (by omega)
      · exact mid h
      · omega
    · exact small h
  · rw [if_neg c] at h2
    cases h2
/-- Of the streets up to a number. -/
theorem streets_ok {n : Int} (h : (streetsR n).2 = true) : 1 ≤ n ∧ n ≤ 1000000 ∧ 1 ≤ (streetsR n).1.length ∧ (bhR n).2 = (fst_ (streetsR n).1 ((streetsR n).1.length - 1) == n) ∧ ∀ i, i < (streetsR n).1.length → rd_L2 (streetsR n).1 (i : Int) = [fst_ (streetsR n).1 i, snd_ (streetsR n).1 i] ∧ ¬ fst_ (streetsR n).1 i > n ∧ (0 < i → fst_ (streetsR n).1 (i - 1) < fst_ (streetsR n).1 i) ∧ impl_BalancedHouse.f (fst_ (streetsR n).1 i) = some (snd_ (streetsR n).1 i, true) := by
  unfold streetsR at h ⊢
  by_cases c : 1 ≤ n ∧ n ≤ 1000000
  · rw [if_pos c]
    obtain ⟨m, rfl⟩ : ∃ m : Nat, n = (m : Int) := ⟨n.toNat, by omega⟩
    rw [Int.toNat_natCast]
    simp only
    refine ⟨c.1, c.2, accB_pos m (by omega), ?_, fun i hi => ?_⟩
    · unfold bhR
      rw [if_pos c, Int.toNat_natCast]
      exact accB_last m (by omega)
    · obtain ⟨q, h1, h2, h3, h4⟩ := accB_mem m _ (List.getElem_mem hi)
      have e : rd_L2 (accB m) (i : Int) = [(q : Int), (impl_balancedHouse.bal q : Int)] := by rw [rdL2_get hi, h4]
      have e1 : fst_ (accB m) i = (q : Int) := by unfold fst_; rw [e]; rfl
      have e2 : snd_ (accB m) i = (impl_balancedHouse.bal q : Int) := by unfold snd_; rw [e]; rfl
      rw [e1, e2]
      refine ⟨e, by omega, fun z => ?_, ?_⟩
      · have := List.pairwise_iff_getElem.1 (accB_rise m) (i - 1) i (by omega) hi (by omega)
        rw [← rdL2_get hi, ← rdL2_get (show i - 1 < (accB m).length by omega), e] at this
        exact this
      · rw [(House_ev (q : Int)).2]
        unfold bhR
        rw [if_pos ⟨by omega, by omega⟩, Int.toNat_natCast, decide_eq_true h3]
  · rw [if_neg c] at h
    cases h
open GFnPlatesMade (Facts)
theorem facts {l0 l1 : List Int} (h0 : InB l0) (h1 : InB l1) : ∃ kk mo dg cn ok al cq nn hs one sts thr pl dgs la sev lf md nin a1 b1 sm elv sN rg thi sx sy rx ry uq us ov,
    Facts kk l0 l1 mo dg cn ok al cq nn hs one sts thr pl dgs la sev lf md nin a1 b1 sm elv sN rg thi sx sy rx ry uq us ov := by
  obtain ⟨mo, dg, e3⟩ := DrawCountDigit_ok h0
  obtain ⟨⟨K5, e5⟩, ⟨K4, e4⟩⟩ := CountDigit_ev mo dg
  obtain ⟨-, ⟨K9, e9⟩⟩ := Digits_ev mo
  obtain ⟨nn, e23⟩ := DrawBalancedHouse_ok h1
  obtain ⟨⟨K25, e25⟩, e24⟩ := House_ev nn
  obtain ⟨⟨K27, e27⟩, ⟨K26, e26⟩⟩ := Streets_ev nn
  obtain ⟨⟨K29, e29⟩, ⟨K28, e28⟩⟩ := Digits_ev nn
  obtain ⟨dgs, e30⟩ := DrawLastWithDigits_ok h1
  obtain ⟨lr, ⟨K32, e32⟩, ⟨K31, e31⟩, hlr⟩ := Last_ev dgs
  obtain ⟨lf, ⟨K33, e33⟩, hlf⟩ := DrawPlatesFrom_ok h1
  obtain ⟨pr, ⟨K35, e35⟩, ⟨K34, e34⟩, hpr⟩ := PlatesFrom_both lf (by omega)
  obtain ⟨a1, b1, e36, ha1, hb1⟩ := DrawSumBetween_ok h1
  obtain ⟨e37, e38⟩ := Sum_eq a1 b1
  obtain ⟨sN, e39, hsN⟩ := DrawRangesWithSum_ok h1
  obtain ⟨⟨K41, e41⟩, ⟨K40, e40⟩⟩ := RG.Ranges_ev sN
  obtain ⟨-, ⟨K59, e59⟩⟩ := Digits_ev lr.1
  obtain ⟨-, ⟨K63, e63⟩⟩ := Digits_ev (wrap64 (lr.1 + 1))
  obtain ⟨K42, e42⟩ := zRows_ev (streetsR nn).1 (by have := streetsR_len nn; omega) (streetsR_rows nn)
  obtain ⟨K43, e43⟩ := zRows_ev (RG.rangesR sN).1 (by have := RG.rangesR_len sN; omega) (RG.rangesR_rows sN)
  have hok : (cdR mo dg).2 = true → 1 ≤ mo ∧ mo ≤ 1000000 ∧ 0 ≤ dg ∧ dg ≤ 9 ∧ (cdR mo dg).1 = M.totd dg mo.toNat := fun z => by
    unfold cdR at z ⊢
    by_cases c : (1 ≤ mo ∧ mo ≤ 1000000) ∧ (0 ≤ dg ∧ dg ≤ 9)
    · rw [if_pos c]
      exact ⟨c.1.1, c.1.2, c.2.1, c.2.2, rfl⟩
    · rw [if_neg c] at z
      cases z
  obtain ⟨K14, e14⟩ := all_ev (g := fun (j : Nat) k => impl_CountDigit.f k mo (j : Int)) (r := fun j => cdR mo (j : Int)) (List.range 10) (fun j _ => (CountDigit_ev mo (j : Int)).2)
  obtain ⟨K70, e70⟩ := all_ev (g := fun (j : Nat) k => impl_CountDigit.f k pr.1 (j : Int)) (r := fun j => cdR pr.1 (j : Int)) (List.range 11) (fun j _ => (CountDigit_ev pr.1 (j : Int)).2)
  obtain ⟨K19, e19⟩ := if_ev (c := 1 ≤ mo ∧ mo ≤ 5000) (g := fun k => impl_LastWithDigits.f k (DL mo.toNat : Int)) (r := (mo, true)) (fun c => by
    obtain ⟨m, rfl⟩ : ∃ m : Nat, mo = (m : Int) := ⟨mo.toNat, by omega⟩
    rw [Int.toNat_natCast]
    have hs := DL_small m (by omega)
    obtain ⟨r, -, h2, h3⟩ := Last_ev (DL m : Int)
    obtain ⟨n, rfl, -, -, h4, h5⟩ := h3 (.inr ⟨by omega, by omega⟩)
    have : n = m := by
      rcases Nat.lt_trichotomy n m with q | q | q
      · have := DL_le (show n + 1 ≤ m from q)
        omega
      · exact q
      · have := DL_lt q
        omega
    rw [this] at h2
    exact h2)
  obtain ⟨K20, e20⟩ := if_ev (c := 1 ≤ mo ∧ mo ≤ 5000) (g := fun k => impl_PlatesFrom.f k (GFnPlatesMade.cl fun j => M.totd (j : Int) mo.toNat)) (r := (mo, true)) (fun c => by
    have := made_from mo.toNat (by omega)
    rwa [show ((mo.toNat : Nat) : Int) = mo by omega] at this)
  obtain ⟨K21, e21⟩ := if_ev (c := 1 ≤ mo ∧ mo ≤ 5000) (g := fun k => laws_zSum.f k (GFnPlatesMade.cl fun j => M.totd (j : Int) mo.toNat)) (r := (DL mo.toNat : Int)) (fun c => zSum_need mo.toNat (by omega))
  have f1 : (streetsR nn).2 = decide (1 ≤ nn ∧ nn ≤ 1000000) := by
    unfold streetsR
    by_cases c : 1 ≤ nn ∧ nn ≤ 1000000
    · rw [if_pos c, decide_eq_true c]
    · rw [if_neg c, decide_eq_false c]
  have f2 : (dgR nn).2 = decide (1 ≤ nn ∧ nn ≤ 1000000) := by
    unfold dgR
    by_cases c : 1 ≤ nn ∧ nn ≤ 1000000
    · rw [if_pos c, decide_eq_true c]
    · rw [if_neg c, decide_eq_false c]
  have f12 : (dgR nn).2 = (streetsR nn).2 := f2.trans f1.symm
  have f3 : (bhR nn).2 = true → (streetsR nn).2 = true := fun z => by
    rw [f1]
    unfold bhR at z
    by_cases c : 1 ≤ nn ∧ nn ≤ 1000000
    · exact decide_eq_true c
    · rw [if_neg c] at z
      cases z
  have hla : lr.2 = true → lr.1 > 0 → ∃ n : Nat, lr.1 = (n : Int) ∧ 1 ≤ n ∧ n ≤ 1000000 ∧ (DL n : Int) ≤ dgs ∧ dgs < (DL (n + 1) : Int) := fun z q => by
    obtain ⟨n, rfl, h2, h3, h4, h5⟩ := hlr (.inl z)
    have q' : (n : Int) > 0 := q
    exact ⟨n, rfl, by omega, by omega, h4, h5⟩
  have hdg : ∀ x : Int, 1 ≤ x → x ≤ 1000000 → dgR x = ((DL x.toNat : Int), true) := fun x p q => by unfold dgR; rw [if_pos ⟨p, q⟩]
  obtain ⟨kk, g4, g5, g9, g14, g19, g20, g21, g25, g26, g27, g28, g29, g31, g32, g33, g34, g35, g40, g41, g42, g43, g59, g63, g70⟩ : ∃ kk, K4 ≤ kk ∧ K5 ≤ kk ∧ K9 ≤ kk ∧ K14 ≤ kk ∧ K19 ≤ kk ∧ K20 ≤ kk ∧ K21 ≤ kk ∧ K25 ≤ kk ∧ K26 ≤ kk ∧ K27 ≤ kk ∧ K28 ≤ kk ∧ K29 ≤ kk ∧ K31 ≤ kk ∧ K32 ≤ kk ∧ K33 ≤ kk ∧ K34 ≤ kk ∧ K35 ≤ kk ∧ K40 ≤ kk ∧ K41 ≤ kk ∧ K42 ≤ kk ∧ K43 ≤ kk ∧ K59 ≤ kk ∧ K63 ≤ kk ∧ K70 ≤ kk := ⟨K4 + K5 + K9 + K14 + K19 + K20 + K21 + K25 + K26 + K27 + K28 + K29 + K31 + K32 + K33 + K34 + K35 + K40 + K41 + K42 + K43 + K59 + K63 + K70, by omega, by omega, by omega, by omega, by omega, by omega, by omega, by omega, by omega, by omega, by omega, by omega, by omega, by omega, by omega, by omega, by omega, by omega, by omega, by omega, by omega, by omega, by omega, by omega⟩
  refine ⟨kk, mo, dg, (cdR mo dg).1, (cdR mo dg).2, (DL mo.toNat : Int), (fun j => M.totd (j : Int) mo.toNat), nn, (bhR nn).1, (bhR nn).2, (streetsR nn).1, (streetsR nn).2, (dgR nn).1, dgs, lr.1, lr.2, lf, pr.1, pr.2, a1, b1, (sbR a1 b1).1, (sbR a1 b1).2, sN, (RG.rangesR sN).1, (RG.rangesR sN).2, fst_ (streetsR nn).1, snd_ (streetsR nn).1, fst_ (RG.rangesR sN).1, snd_ (RG.rangesR sN).1, (fun j => (cdR pr.1 (j : Int)).1), (dgR lr.1).1, (dgR (wrap64 (lr.1 + 1))).1, ?_⟩
  exact {
    f3_1 := e3
    f4_2 := e4 kk g4
    f5_2 := e5 kk g5
    f9_1 := fun z q => by
      obtain ⟨c1, c2, -⟩ := hok z
      exact (e9 kk g9).trans (by rw [hdg mo c1 c2])
    f19_1 := fun z q => e19 ⟨(hok z).1, q⟩ kk g19
    f20_1 := fun z q => e20 ⟨(hok z).1, q⟩ kk g20
    f21_4 := fun z q => e21 ⟨(hok z).1, q⟩ kk g21
    f23_1 := e23
    f24_1 := e24
    f25_1 := e25 kk g25
    f26_1 := e26 kk g26
    f27_1 := e27 kk g27
    f28_1 := by rw [← f12]; exact e28 kk g28
    f29_1 := by rw [← f12]; exact e29 kk g29
    f30_1 := e30
    f31_1 := e31 kk g31
    f32_1 := e32 kk g32
    f33_1 := e33 kk g33
    f34_1 := e34 kk g34
    f35_1 := e35 kk g35
    f36_1 := e36
    f37_2 := e37
    f38_2 := e38
    f39_1 := e39
    f40_1 := e40 kk g40
    f41_1 := e41 kk g41
    f42_16 := e42 kk g42
    f42_67 := e43 kk g43
    f59_1 := fun z q => by
      obtain ⟨n, hn, n1, n2, -⟩ := hla z q
      exact (e59 kk g59).trans (by rw [hdg lr.1 (by omega) (by omega)])
    f63_2 := fun z q p => by
      obtain ⟨n, hn, n1, n2, -⟩ := hla z q
      refine (e63 kk g63).trans ?_
      rw [M.w64 (x := lr.1 + 1) (by omega) (by omega), hdg (lr.1 + 1) (by omega) (by omega)]
    hdg := fun z => by
      obtain ⟨-, -, c3, c4, -⟩ := hok z
      exact ⟨c3, by omega⟩
    hcq := fun z _ i hi => by
      obtain ⟨c1, c2, -⟩ := hok z
      refine (e14 i (List.mem_range.2 hi) kk g14).trans ?_
      unfold cdR
      rw [if_pos ⟨⟨c1, c2⟩, by omega, by omega⟩]
    hneed := fun z _ => by
      obtain ⟨c1, c2, c3, c4, c5⟩ := hok z
      rw [cl_get _ (show dg.toNat < 10 by omega), c5, show ((dg.toNat : Nat) : Int) = dg by omega]
    hot := f3
    hbal := house_bal
    hrow := fun z => (streets_ok z).2.2.2.2
    hst := fun z => by
      obtain ⟨c1, c2, c3, c4, -⟩ := streets_ok z
      exact ⟨c3, streetsR_len nn, c4⟩
    hus := fun z q => by
      obtain ⟨n, hn, n1, n2, n3, n4⟩ := hla z q
      rw [hdg lr.1 (by omega) (by omega), hn, Int.toNat_natCast]
      simp only
      omega
    hov := fun z q p => by
      obtain ⟨n, hn, n1, n2, n3, n4⟩ := hla z q
      rw [M.w64 (x := lr.1 + 1) (by omega) (by omega), hdg (lr.1 + 1) (by omega) (by omega), hn, show ((n : Int) + 1).toNat = n + 1 by omega]
      simp only
      omega
    huq := fun z q p i hi => by
      rcases hpr with ⟨hr, -⟩ | ⟨v, hr, hlen, hb, hv, he⟩
      · rw [hr] at z
        cases z
      · have hm : pr.1 = (v : Int) := by rw [hr]
        rw [hm] at q p ⊢
        have hc : cdR (v : Int) (i : Int) = (M.totd (i : Int) v, true) := by
          unfold cdR
          rw [if_pos ⟨⟨by omega, by omega⟩, by omega, by omega⟩, Int.toNat_natCast]
        have h := e70 i (List.mem_range.2 (by omega)) kk g70
        rw [hm] at h
        rw [hc] at h ⊢
        refine ⟨h, ?_⟩
        have := he.1 i (by omega)
        unfold rd at this
        rw [Int.toNat_natCast] at this
        simp only
        omega
    hs0 := fun z => (sums_ok a1 ha1 b1 hb1 z).1
    hs1 := fun z => (sums_ok a1 ha1 b1 hb1 z).2.1
    hs2 := fun z => (sums_ok a1 ha1 b1 hb1 z).2.2
    hrl := fun z => by
      obtain ⟨⟨r1, r2, -⟩, r4, r5⟩ := ranges_ok hsN z
      exact ⟨r1, r4, r5, r2⟩
    hrng := fun z i hi => (ranges_ok hsN z).1.2.2 i (List.mem_range.2 hi) }
theorem FnPlatesMade {A0 A1 : Option Addr} {c0 c1 : Nat} {l0 l1 : List Int} (w : World) (hV : VarsOK w) (hr0 : Kd.C (Kd.int .u8) w A0 l0.length l0) (hc0 : l0.length ≤ c0) (hr1 : Kd.C (Kd.int .u8) w A1 l1.length l1) (hc1 : l1.length ≤ c1) (h0 : InB l0) (h1 : InB l1) :
    Calls Tryd.prog 3 #[.slice A0 l0.length c0, .slice A1 l1.length c1] w fun e w' => e = .returned (.bool true) ∧ Below w.heap.size w w' := by
  have hb : ∃ b, laws_big.f l0 l1 = some b := by
    unfold laws_big.f
    split
    · exact ⟨_, rfl⟩
    · exact ⟨_, rfl⟩
  obtain ⟨b, hb⟩ := hb
  cases b with
  | true => exact GFnPlatesMade.calls_big hb w hV hr0 hc0 hr1 hc1
  | false =>
    obtain ⟨kk, mo, dg, cn, ok, al, cq, nn, hs, one, sts, thr, pl, dgs, la, sev, lf, md, nin, a1, b1, sm, elv, sN, rg, thi, sx, sy, rx, ry, uq, us, ov, H⟩ := facts h0 h1
    exact GFnPlatesMade.calls_small H hb w hV hr0 hc0 hr1 hc1

end Go.Proofs.YtihmjhchiomgbaaDoor.Pure
