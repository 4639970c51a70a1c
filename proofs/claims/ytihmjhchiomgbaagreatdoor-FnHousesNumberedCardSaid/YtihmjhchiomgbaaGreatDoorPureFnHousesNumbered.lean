/- FnHousesNumbered holds for all bytes: whatever is drawn, the program and the reference answer alike, and the numbers fit together. -/
import Derived.Test.YtihmjhchiomgbaaGreatDoorM
import Derived.Test.YtihmjhchiomgbaaGreatDoorGFnHousesNumbered
import Derived.Laws.Bits64b
namespace Go.Proofs.YtihmjhchiomgbaaGreatDoor.Pure
open Go.RowKit Go.Proofs.YtihmjhchiomgbaaGreatDoor.PFnHousesNumbered Go.Proofs.YtihmjhchiomgbaaGreatDoorW.PrintWords Go.Proofs.YtihmjhchiomgbaaGreatDoorW.PrintLast Go.Proofs.YtihmjhchiomgbaaGreatDoorW.PrintMore
set_option linter.unusedVariables false
set_option linter.unusedSimpArgs false
/-! ### Houses, plain -/
theorem number_of {k p n : Int} (h : M.asked k p n = true) : M.number k p (M.side k p n) (M.plot k p n) = n := by
  have hb := M.asked_bd h
  unfold M.number M.side M.plot
  repeat' split
  all_goals omega
theorem place_of_number {k p s q : Int} (h : M.streetB k p = true) (hs : s = 0 ∨ s = 1 ∧ 0 < k) (hq : 0 ≤ q ∧ q < p) : M.asked k p (M.number k p s q) = true ∧ M.side k p (M.number k p s q) = s ∧ M.plot k p (M.number k p s q) = q := by
  have h' := M.streetB_iff.1 h
  refine ⟨M.asked_iff.2 ⟨h, ?_⟩, ?_, ?_⟩
  · unfold M.number M.houses
    repeat' split
    all_goals omega
  · unfold M.side M.number
    repeat' split
    all_goals omega
  · unfold M.plot M.number
    repeat' split
    all_goals omega
theorem sum_one (p s : Int) : ∀ n : Nat, M.sumL (M.numsL 1 p s n) = (n : Int) * (n : Int) + (n : Int) * s
  | 0 => by simp [M.numsL, M.sumL]
  | n + 1 => by
    rw [M.numsL_succ, M.sumL_append, sum_one p s n]
    simp only [M.sumL, M.number, if_true]
    rw [show ((n + 1 : Nat) : Int) = (n : Int) + 1 by omega]
    simp only [Int.add_mul, Int.mul_add, Int.one_mul, Int.mul_one]
    omega
theorem sum_up {k : Int} (p : Int) (hk : k ≠ 1) {s : Int} (hs : s ≠ 1) : ∀ n : Nat, 2 * M.sumL (M.numsL k p s n) = (n : Int) * (n : Int) + (n : Int)
  | 0 => by simp [M.numsL, M.sumL]
  | n + 1 => by
    have ih := sum_up p hk hs n
    rw [M.numsL_succ, M.sumL_append]
    simp only [M.sumL, M.number, if_neg hk, if_neg hs]
    rw [show ((n + 1 : Nat) : Int) = (n : Int) + 1 by omega]
    simp only [Int.add_mul, Int.mul_add, Int.one_mul, Int.mul_one] at ih ⊢
    omega
theorem sum_down {k : Int} (p : Int) (hk : k ≠ 1) : ∀ n : Nat, 2 * M.sumL (M.numsL k p 1 n) = 4 * p * (n : Int) - (n : Int) * (n : Int) + (n : Int)
  | 0 => by simp [M.numsL, M.sumL]
  | n + 1 => by
    have ih := sum_down p hk n
    rw [M.numsL_succ, M.sumL_append]
    simp only [M.sumL, M.number, if_neg hk, if_true]
    rw [show ((n + 1 : Nat) : Int) = (n : Int) + 1 by omega]
    simp only [Int.add_mul, Int.mul_add, Int.one_mul, Int.mul_one] at ih ⊢
    omega
/-- Numbers of both sides are all. -/
theorem sums_all {k p : Int} (h : M.streetB k p = true) : 2 * (M.sumL (M.numsR k p 0) + M.sumL (M.numsR k p 1)) = M.houses k p * (M.houses k p + 1) ∧ ((M.numsR k p 0).length : Int) + ((M.numsR k p 1).length : Int) = M.houses k p := by
  have h' := M.streetB_iff.1 h
  obtain ⟨n, rfl⟩ : ∃ n : Nat, p = n := ⟨p.toNat, by omega⟩
  unfold M.numsR M.houses
  rw [Int.toNat_natCast]
  by_cases k0 : k = 0
  · subst k0
    have h1 := sum_up (k := 0) (n : Int) (by omega) (s := 0) (by omega) n
    simp [M.numsL_length, M.sumL] at h1 ⊢
    simp only [Int.mul_add, Int.mul_one]
    omega
  · by_cases k1 : k = 1
    · subst k1
      have h1 := sum_one (n : Int) 0 n
      have h2 := sum_one (n : Int) 1 n
      simp [M.numsL_length] at h1 h2 ⊢
      rw [h1, h2]
      constructor
      · rw [show (2 : Int) * (n : Int) = (n : Int) + (n : Int) by omega]
        simp only [Int.mul_add, Int.add_mul, Int.mul_one]
        omega
      · omega
    · have h1 := sum_up (k := k) (n : Int) k1 (s := 0) (by omega) n
      have h2 := sum_down (k := k) (n : Int) k1 n
      simp [M.numsL_length, k0] at h1 h2 ⊢
      constructor
      · rw [show (4 : Int) * (n : Int) * (n : Int) = (n : Int) * (n : Int) + (n : Int) * (n : Int) + (n : Int) * (n : Int) + (n : Int) * (n : Int) by rw [Int.mul_assoc]; omega] at h2
        rw [show (2 : Int) * (n : Int) = (n : Int) + (n : Int) by omega]
        simp only [Int.mul_add, Int.add_mul, Int.mul_one]
        omega
      · omega
theorem spec_l1In_eq (a b c : Int) : spec_l1In.f a b c = some (decide (b ≤ a ∧ a ≤ c)) := by
  unfold spec_l1In.f
  by_cases h : a ≥ b
  · rw [if_pos h]; simp [show b ≤ a from h]
  · rw [if_neg h]; simp [show ¬ b ≤ a from h]
theorem impl_within_eq (a b c : Int) : impl_within.f a b c = some (decide (b ≤ a ∧ a ≤ c)) := by
  unfold impl_within.f
  by_cases h : a ≥ b
  · rw [if_pos h]; simp [show b ≤ a from h]
  · rw [if_neg h]; simp [show ¬ b ≤ a from h]
theorem spec_nuGood_eq (k p : Int) : spec_nuGood.f k p = some (M.streetB k p) := by
  unfold spec_nuGood.f M.streetB
  simp only [spec_l1In_eq, Option.bind_some]
  by_cases h : 0 ≤ k ∧ k ≤ 2 <;> simp [h]
theorem impl_IsStreet_eq (k p : Int) : impl_IsStreet.f k p = some (M.streetB k p) := by
  unfold impl_IsStreet.f M.streetB
  simp only [impl_within_eq, Option.bind_some]
  by_cases h : 0 ≤ k ∧ k ≤ 2 <;> simp [h]
theorem decDigits_eq : ∀ (n : Nat), Lib.decDigits n = (M.digs n).map (fun z => UInt8.ofNat z.toNat) := by
  intro n
  induction n using Nat.strongRecOn with
  | ind n ih =>
    by_cases h : n < 10
    · rw [Lib.decDigits, dif_pos h, M.digs_small h]
      simp only [List.map_cons, List.map_nil]
      rw [show (48 + (n : Int)).toNat = 48 + n by omega]
    · rw [Lib.decDigits, dif_neg h, M.digs_big h, ih (n / 10) (by omega)]
      simp only [List.map_append, List.map_cons, List.map_nil]
      rw [show (48 + ((n % 10 : Nat) : Int)).toNat = 48 + n % 10 by omega]
theorem digs_range : ∀ (n : Nat), ∀ z ∈ M.digs n, 48 ≤ z ∧ z ≤ 57 := by
  intro n
  induction n using Nat.strongRecOn with
  | ind n ih =>
    intro z hz
    by_cases h : n < 10
    · rw [M.digs_small h] at hz
      simp at hz
      omega
    · rw [M.digs_big h] at hz
      simp only [List.mem_append, List.mem_singleton] at hz
      rcases hz with hz | hz
      · exact ih (n / 10) (by omega) z hz
      · omega
theorem digs_pos : ∀ (n : Nat), 1 ≤ (M.digs n).length := by
  intro n
  by_cases h : n < 10
  · rw [M.digs_small h]; simp
  · rw [M.digs_big h]; simp
theorem digs_tight : ∀ (j n : Nat), n < 10 ^ (j + 1) → (M.digs n).length ≤ j + 1 := by
  intro j
  induction j with
  | zero => intro n h; rw [M.digs_small (by simpa using h)]; simp
  | succ j ih =>
    intro n h
    by_cases c : n < 10
    · rw [M.digs_small c]; simp
    · rw [M.digs_big c, List.length_append]
      have := ih (n / 10) (by rw [Nat.pow_succ] at h; exact Nat.div_lt_of_lt_mul (by rw [Nat.mul_comm]; exact h))
      simp
      omega
theorem digs_head : ∀ (n : Nat), 1 ≤ n → (M.digs n).getD 0 0 ≠ 48 := by
  intro n
  induction n using Nat.strongRecOn with
  | ind n ih =>
    intro h1
    by_cases h : n < 10
    · rw [M.digs_small h]
      simp
      omega
    · rw [M.digs_big h]
      have hp := digs_pos (n / 10)
      have h2 := ih (n / 10) (by omega) (by omega)
      rw [List.getD_eq_getElem?_getD, List.getElem?_append_left (by omega), ← List.getD_eq_getElem?_getD]
      exact h2
theorem bt_nums (xs : List Int) (hx : ∀ z ∈ xs, 0 ≤ z ∧ z ≤ 255) (i : Nat) (hi : i < xs.length) : bt (strOfNums xs) (i : Int) = xs.getD i 0 := by
  have hs : i < (strOfNums xs).size := by rw [strOfNums_size]; exact hi
  have hz := hx _ (List.getElem_mem hi)
  unfold bt
  rw [Int.toNat_natCast, dif_pos hs]
  have e : (strOfNums xs)[i] = UInt8.ofNat (xs[i]).toNat := by
    show (strOfNums xs).data[i]'hs = _
    rw [← Array.getElem_toList]
    simp only [strOfNums_data, List.getElem_map]
  rw [e, List.getD_eq_getElem?_getD, List.getElem?_eq_getElem hi]
  simp only [Option.getD_some]
  have : (UInt8.ofNat (xs[i]).toNat).toNat = (xs[i]).toNat := by simp; omega
  rw [this]
  omega
def dstep (a d : Int) : Int := 10 * a + (d - 48)
theorem dstep_def (a d : Int) : dstep a d = 10 * a + (d - 48) := rfl
theorem digs_val : ∀ (n : Nat), (M.digs n).foldl dstep 0 = (n : Int) := by
  intro n
  induction n using Nat.strongRecOn with
  | ind n ih =>
    by_cases h : n < 10
    · rw [M.digs_small h]; simp [dstep]; omega
    · rw [M.digs_big h, List.foldl_append, ih (n / 10) (by omega)]
      simp only [List.foldl_cons, List.foldl_nil, dstep]
      omega
theorem l1Read_loop (xs : List Int) (hx : ∀ z ∈ xs, 48 ≤ z ∧ z ≤ 57) (h6 : xs.length ≤ 6) : ∀ (d i : Nat) (v : Int), i ≤ xs.length → xs.length - i = d → 0 ≤ v → v + 1 ≤ (10 ^ i : Nat) → Ev (fun k => spec_l1Read.l0 k (strOfNums xs) v (i : Int)) ((xs.drop i).foldl dstep v) := by
  intro d
  induction d with
  | zero =>
    intro i v hi hd h0 h1
    obtain rfl : i = xs.length := by omega
    refine M.Ev_succ (M.Ev_some fun k => ?_)
    simp only [spec_l1Read.l0]
    rw [if_neg (by rw [strOfNums_size]; omega), List.drop_length]
    rfl
  | succ d ih =>
    intro i v hi hd h0 h1
    have hlt : i < xs.length := by omega
    have hz := hx _ (List.getElem_mem hlt)
    have e : wrap64 ((i : Int) + 1) = ((i + 1 : Nat) : Int) := by rw [M.w64 (by omega) (by omega)]; omega
    have hp : (10 ^ i : Nat) ≤ 10 ^ 6 := Nat.pow_le_pow_right (by omega) (by omega)
    have hp1 : (10 ^ (i + 1) : Nat) = 10 * 10 ^ i := by rw [Nat.pow_succ, Nat.mul_comm]
    have hb : bt (strOfNums xs) (i : Int) = xs[i] := by
      rw [bt_nums xs (fun z h => by have := hx z h; omega) i hlt, List.getD_eq_getElem?_getD, List.getElem?_eq_getElem hlt]
      rfl
    have ev : wrap64 (wrap64 (10 * v) + (xs[i] - 48) % 256) = dstep v xs[i] := by
      unfold dstep
      rw [M.w64 (x := 10 * v) (by omega) (by omega), M.w64 (by omega) (by omega)]
      omega
    have hi2 := ih (i + 1) (dstep v xs[i]) (by omega) (by omega) (by unfold dstep; omega) (by unfold dstep; rw [hp1]; omega)
    refine M.Ev_succ ?_
    simp only [spec_l1Read.l0, strOfNums_size, show (i : Int) < (xs.length : Int) by omega, show (0 : Int) ≤ (i : Int) by omega, if_true, hb, show ¬ (xs[i] < 48) by omega, show ¬ (xs[i] > 57) by omega, if_false, ev, e]
    rw [List.drop_eq_getElem_cons hlt]
    exact hi2
theorem l1Read_digs (n : Nat) (h1 : 1 ≤ n) (h : n ≤ 99999) : Ev (fun k => spec_l1Read.f k (strOfNums (M.digs n))) (n : Int) := by
  have hl := digs_tight 4 n (by omega)
  have hp := digs_pos n
  have hr := l1Read_loop (M.digs n) (digs_range n) (by omega) (M.digs n).length 0 0 (by omega) (by omega) (by omega) (by simp)
  rw [List.drop_zero, digs_val] at hr
  have hb : bt (strOfNums (M.digs n)) 0 = (M.digs n).getD 0 0 := bt_nums (M.digs n) (fun z h => by have := digs_range n z h; omega) 0 (by omega)
  have hh := digs_head n h1
  unfold spec_l1Read.f
  simp only [spec_l1In_eq, Option.bind_some, strOfNums_size, decide_eq_true (show (1 : Int) ≤ ((M.digs n).length : Int) ∧ ((M.digs n).length : Int) ≤ 6 by omega), if_true, show (0 : Int) < ((M.digs n).length : Int) by omega, hb, hh, if_false]
  exact M.Ev_succ (by simp only [spec_l1Read.j0, Bool.false_eq_true, if_false]; exact hr)
theorem parse_snoc : ∀ (L : List UInt8) (acc u : Nat) (c : UInt8), Lib.parseUint10 acc L = .ok u → 48 ≤ c.toNat → c.toNat ≤ 57 → u ≤ 100000000000000000 → Lib.parseUint10 acc (L ++ [c]) = .ok (u * 10 + (c.toNat - 48))
  | [], acc, u, c, h, h1, h2, h3 => by
    simp only [Lib.parseUint10] at h
    injection h with h
    subst h
    simp only [List.nil_append, Lib.parseUint10]
    rw [if_pos ⟨h1, h2⟩, if_neg (by omega), if_neg (by omega)]
  | x :: L, acc, u, c, h, h1, h2, h3 => by
    simp only [Lib.parseUint10, List.cons_append] at h ⊢
    split at h
    · rename_i q1
      rw [if_pos q1]
      split at h
      · cases h
      · rename_i q2
        rw [if_neg q2]
        split at h
        · cases h
        · rename_i q3
          rw [if_neg q3]
          exact parse_snoc L _ u c h h1 h2 h3
    · cases h
theorem u8_toNat (n : Nat) (h : n < 256) : (UInt8.ofNat n).toNat = n := by simp; omega
theorem parse_dec : ∀ (n : Nat), n ≤ 1000000000000000 → Lib.parseUint10 0 (Lib.decDigits n) = .ok n := by
  intro n
  induction n using Nat.strongRecOn with
  | ind n ih =>
    intro hn
    by_cases h : n < 10
    · rw [Lib.decDigits, dif_pos h]
      simp only [Lib.parseUint10]
      rw [u8_toNat _ (by omega), if_pos ⟨by omega, by omega⟩, if_neg (by omega), if_neg (by omega)]
      congr 1
      omega
    · rw [Lib.decDigits, dif_neg h, parse_snoc _ 0 (n / 10) _ (ih (n / 10) (by omega) (by omega)) (by rw [u8_toNat _ (by omega)]; omega) (by rw [u8_toNat _ (by omega)]; omega) (by omega), u8_toNat _ (by omega)]
      congr 1
      omega
theorem dec_range (n : Nat) : ∀ c ∈ Lib.decDigits n, 48 ≤ c.toNat ∧ c.toNat ≤ 57 := by
  intro c hc
  rw [decDigits_eq] at hc
  obtain ⟨z, hz, rfl⟩ := List.mem_map.1 hc
  have := digs_range n z hz
  rw [u8_toNat _ (by omega)]
  omega
theorem atoi_dec (n : Nat) (hn : n ≤ 1000000000000000) : Lib.atoiAll (Lib.decDigits n) = .ok (n : Int) := by
  have hp := parse_dec n hn
  have hr := dec_range n
  have h1 : 1 ≤ (Lib.decDigits n).length := by rw [decDigits_eq, List.length_map]; exact digs_pos n
  cases hd : Lib.decDigits n with
  | nil => rw [hd] at h1; simp at h1
  | cons c r =>
    rw [hd] at hp hr
    have hc := hr c (by simp)
    have n1 : ¬ (c.toNat = 43 ∨ c.toNat = 45) := by omega
    have n2 : ¬ c.toNat = 45 := by omega
    simp only [Lib.atoiAll, Lib.parseMag]
    rw [if_neg n1, if_neg (List.cons_ne_nil c r), hp]
    simp only [n2, not_false_eq_true, true_and, false_and, if_false]
    rw [if_neg (by omega)]
theorem nums_dec (n : Nat) : (strOfNums (M.digs n)).data.toList = Lib.decDigits n := by rw [strOfNums_data, decDigits_eq]
theorem readNumber_digs (n : Nat) (hn : n ≤ 1000000000000) : impl_readNumber.f (strOfNums (M.digs n)) = some ((n : Int), true) := by
  unfold impl_readNumber.f
  have := M.digs_le20 (n := n) (by omega)
  rw [if_pos (by rw [strOfNums_size]; omega), nums_dec, atoi_dec n (by omega)]
  have hi : Lib.itoa (n : Int) = Lib.decDigits n := by rw [Lib.itoa, if_neg (by omega), Int.toNat_natCast]
  simp only [hi, if_true]
theorem readNumber_any (x : ByteArray) (hx : x.size ≤ 1000000000000) : ∃ r, impl_readNumber.f x = some r ∧ (r = (0, false) ∨ r.2 = true ∧ Lib.itoa r.1 = x.data.toList) := by
  unfold impl_readNumber.f
  rw [if_pos (by omega)]
  cases h : Lib.atoiAll x.data.toList with
  | ok v =>
    simp only
    by_cases q : Lib.itoa v = x.data.toList
    · rw [if_pos q]; exact ⟨_, rfl, .inr ⟨rfl, q⟩⟩
    · rw [if_neg q]; exact ⟨_, rfl, .inl rfl⟩
  | _ => exact ⟨_, rfl, .inl rfl⟩
theorem bytes_eq {x y : ByteArray} (h : x.data.toList = y.data.toList) : x = y := ByteArray.ext (Array.toList_inj.1 h)
theorem nums_of_itoa {x : ByteArray} {v : Int} (h0 : 0 ≤ v) (h : Lib.itoa v = x.data.toList) : x = strOfNums (M.digs v.toNat) := by
  refine bytes_eq ?_
  rw [nums_dec, ← h, Lib.itoa, if_neg (by omega)]
theorem as_nums (s : ByteArray) : ∃ xs : List Int, (∀ z ∈ xs, 0 ≤ z ∧ z ≤ 255) ∧ s = strOfNums xs := by
  refine ⟨s.data.toList.map (fun c => (c.toNat : Int)), ?_, bytes_eq ?_⟩
  · intro z hz
    obtain ⟨c, _, rfl⟩ := List.mem_map.1 hz
    have := c.toNat_lt
    omega
  · rw [strOfNums_data, List.map_map]
    have : ((fun n : Int => UInt8.ofNat n.toNat) ∘ fun c : UInt8 => (c.toNat : Int)) = id := by
      funext c
      simp
    rw [this, List.map_id]
def AllD (xs : List Int) : Prop := ∀ z ∈ xs, 48 ≤ z ∧ z ≤ 57
theorem l1Read_gen (xs : List Int) (hx : ∀ z ∈ xs, 0 ≤ z ∧ z ≤ 255) (h6 : xs.length ≤ 6) : ∀ (d i : Nat) (v : Int), i ≤ xs.length → xs.length - i = d → 0 ≤ v → v + 1 ≤ (10 ^ i : Nat) → ∃ r, Ev (fun k => spec_l1Read.l0 k (strOfNums xs) v (i : Int)) r ∧ (r = -1 ∨ AllD (xs.drop i) ∧ r = (xs.drop i).foldl dstep v) := by
  intro d
  induction d with
  | zero =>
    intro i v hi hd h0 h1
    obtain rfl : i = xs.length := by omega
    refine ⟨v, M.Ev_succ (M.Ev_some fun k => ?_), .inr ⟨?_, ?_⟩⟩
    · simp only [spec_l1Read.l0]
      rw [if_neg (by rw [strOfNums_size]; omega)]
    · rw [List.drop_length]; intro z hz; cases hz
    · rw [List.drop_length]; rfl
  | succ d ih =>
    intro i v hi hd h0 h1
    have hlt : i < xs.length := by omega
    have hz := hx _ (List.getElem_mem hlt)
    have e : wrap64 ((i : Int) + 1) = ((i + 1 : Nat) : Int) := by rw [M.w64 (by omega) (by omega)]; omega
    have hp : (10 ^ i : Nat) ≤ 10 ^ 6 := Nat.pow_le_pow_right (by omega) (by omega)
    have hp1 : (10 ^ (i + 1) : Nat) = 10 * 10 ^ i := by rw [Nat.pow_succ, Nat.mul_comm]
    have hb : bt (strOfNums xs) (i : Int) = xs[i] := by
      rw [bt_nums xs hx i hlt, List.getD_eq_getElem?_getD, List.getElem?_eq_getElem hlt]
      rfl
    by_cases c1 : xs[i] < 48
    · refine ⟨-1, M.Ev_succ (M.Ev_some fun k => ?_), .inl rfl⟩
      simp only [spec_l1Read.l0, strOfNums_size, show (i : Int) < (xs.length : Int) by omega, show (0 : Int) ≤ (i : Int) by omega, if_true, hb, c1]
    · by_cases c2 : xs[i] > 57
      · refine ⟨-1, M.Ev_succ (M.Ev_some fun k => ?_), .inl rfl⟩
        simp only [spec_l1Read.l0, strOfNums_size, show (i : Int) < (xs.length : Int) by omega, show (0 : Int) ≤ (i : Int) by omega, if_true, hb, c1, c2, if_false]
      · have ev : wrap64 (wrap64 (10 * v) + (xs[i] - 48) % 256) = dstep v xs[i] := by
          unfold dstep
          rw [M.w64 (x := 10 * v) (by omega) (by omega), M.w64 (by omega) (by omega)]
          omega
        obtain ⟨r, hr, hc⟩ := ih (i + 1) (dstep v xs[i]) (by omega) (by omega) (by unfold dstep; omega) (by unfold dstep; rw [hp1]; omega)
        refine ⟨r, M.Ev_succ ?_, ?_⟩
        · simp only [spec_l1Read.l0, strOfNums_size, show (i : Int) < (xs.length : Int) by omega, show (0 : Int) ≤ (i : Int) by omega, if_true, hb, c1, c2, if_false, ev, e]
          exact hr
        · rcases hc with hc | ⟨hc, hc2⟩
          · exact .inl hc
          · rw [List.drop_eq_getElem_cons hlt]
            refine .inr ⟨?_, hc2⟩
            intro z hz2
            rcases List.mem_cons.1 hz2 with rfl | hz2
            · omega
            · exact hc z hz2
theorem val_nonneg : ∀ (xs : List Int), AllD xs → ∀ v : Int, 0 ≤ v → v ≤ xs.foldl dstep v
  | [], _, v, h => by simp
  | x :: xs, hx, v, h => by
    have h1 := hx x (by simp)
    have h2 := val_nonneg xs (fun z hz => hx z (by simp [hz])) (dstep v x) (by unfold dstep; omega)
    rw [List.foldl_cons]
    unfold dstep at h2 ⊢
    omega
/-- Digits without a zero ahead are the number's own. -/
theorem digs_of_val : ∀ (n : Nat) (xs : List Int), xs.length = n + 1 → AllD xs → (xs.length = 1 ∨ xs.getD 0 0 ≠ 48) → M.digs (xs.foldl dstep 0).toNat = xs := by
  intro n
  induction n with
  | zero =>
    intro xs hl hx _
    match xs, hl with
    | [d], _ =>
      have := hx d (by simp)
      simp only [List.foldl_cons, List.foldl_nil, dstep]
      rw [M.digs_small (by omega)]
      congr 1
      omega
  | succ n ih =>
    intro xs hl hx h0
    obtain ⟨ys, d, rfl⟩ : ∃ ys d, xs = ys ++ [d] := ⟨xs.dropLast, xs.getLast (by intro e; rw [e] at hl; simp at hl), (List.dropLast_concat_getLast _).symm⟩
    have hyl : ys.length = n + 1 := by simpa using hl
    have hd := hx d (by simp)
    have hy : AllD ys := fun z hz => hx z (by simp [hz])
    have hh : (ys ++ [d]).getD 0 0 ≠ 48 := by
      rcases h0 with h0 | h0
      · rw [hl] at h0; omega
      · exact h0
    rw [List.getD_eq_getElem?_getD, List.getElem?_append_left (by omega), ← List.getD_eq_getElem?_getD] at hh
    have hi := ih ys hyl hy (.inr hh)
    have hv : 1 ≤ ys.foldl dstep 0 := by
      match ys, hyl, hy, hh with
      | y :: ys, _, hy, hh =>
        have h1 := hy y (by simp)
        have h2 := val_nonneg ys (fun z hz => hy z (by simp [hz])) (dstep 0 y) (by unfold dstep; omega)
        have hh' : y ≠ 48 := hh
        rw [List.foldl_cons]
        unfold dstep at h2 ⊢
        omega
    rw [List.foldl_append]
    simp only [List.foldl_cons, List.foldl_nil]
    have e1 : (dstep (ys.foldl dstep 0) d).toNat / 10 = (ys.foldl dstep 0).toNat := by rw [dstep_def]; omega
    rw [M.digs_big (by rw [dstep_def]; omega), e1, hi]
    congr 2
    rw [dstep_def]
    omega
/-- What l1Read reads, if it reads a number, is that number's own text. -/
theorem l1Read_conv (s : ByteArray) (hs : s.size ≤ 1000000000000) : ∃ v, Ev (fun k => spec_l1Read.f k s) v ∧ (1 ≤ v → s = strOfNums (M.digs v.toNat)) := by
  obtain ⟨xs, hx, rfl⟩ := as_nums s
  rw [strOfNums_size] at hs
  unfold spec_l1Read.f
  simp only [spec_l1In_eq, Option.bind_some, strOfNums_size]
  by_cases c : (1 : Int) ≤ (xs.length : Int) ∧ (xs.length : Int) ≤ 6
  · obtain ⟨r, hr, hc⟩ := l1Read_gen xs hx (by omega) xs.length 0 0 (by omega) (by omega) (by omega) (by simp)
    have hb : bt (strOfNums xs) 0 = xs.getD 0 0 := bt_nums xs hx 0 (by omega)
    rw [List.drop_zero] at hc
    have good : (xs.length = 1 ∨ xs.getD 0 0 ≠ 48) → 1 ≤ r → strOfNums xs = strOfNums (M.digs r.toNat) := by
      intro h0 h1
      rcases hc with hc | ⟨hc, rfl⟩
      · omega
      · rw [digs_of_val (xs.length - 1) xs (by omega) hc h0]
    simp only [decide_eq_true c, if_true, show (0 : Int) < (xs.length : Int) by omega, hb]
    by_cases c2 : xs.getD 0 0 = 48
    · by_cases c3 : (xs.length : Int) > 1
      · simp only [c2, if_true, decide_eq_true c3]
        exact ⟨-1, M.Ev_succ (M.Ev_some fun k => by simp [spec_l1Read.j0]), fun h => by omega⟩
      · simp only [c2, if_true, decide_eq_false c3]
        exact ⟨r, M.Ev_succ (by simp only [spec_l1Read.j0, Bool.false_eq_true, if_false]; exact hr), good (.inl (by omega))⟩
    · simp only [c2, if_false]
      exact ⟨r, M.Ev_succ (by simp only [spec_l1Read.j0, Bool.false_eq_true, if_false]; exact hr), good (.inr c2)⟩
  · simp only [decide_eq_false c, Bool.false_eq_true, if_false]
    exact ⟨-1, M.Ev_succ (M.Ev_some fun k => by simp [spec_l1Read.j0]), fun h => by omega⟩
def kindOf (c : Int) : Int := if c = 117 then 2 else if c = 111 then 1 else if c = 114 then 0 else -1
theorem kind_all : ∀ n : Fin 256, Lib.indexByte [114, 111, 117] n.val.toUInt8 = (if n.val = 117 then 2 else if n.val = 111 then 1 else if n.val = 114 then 0 else -1) := by decide +kernel
theorem kind_eq (s : ByteArray) : strings_IndexByte.f (⟨#[114, 111, 117]⟩ : ByteArray) (bt s 0) = some (kindOf (bt s 0)) := by
  have h := bt_range s 0
  generalize bt s 0 = c at h
  obtain ⟨n, rfl⟩ := Int.eq_ofNat_of_zero_le h.1
  unfold strings_IndexByte.f kindOf
  have := kind_all ⟨n, by omega⟩
  rw [show ((⟨#[114, 111, 117]⟩ : ByteArray).data.toList) = [114, 111, 117] from rfl, Int.toNat_natCast, this]
  simp only
  congr 1
  by_cases a : n = 117
  · simp [a]
  · by_cases b : n = 111
    · simp [b]
    · by_cases d : n = 114
      · simp [d]
      · rw [if_neg a, if_neg b, if_neg d, if_neg (by omega), if_neg (by omega), if_neg (by omega)]
theorem kinds_ev (s : ByteArray) (hs : 0 < s.size) (v : Int) (r : Int × Int × Bool) (hr : (if M.streetB (kindOf (bt s 0)) v = true then (kindOf (bt s 0), v, true) else (0, 0, false)) = r) : Ev (fun k => spec_nuParse.l0 k s 0 (-1) v) r := by
  have b0 : bt (⟨#[114, 111, 117]⟩ : ByteArray) 0 = 114 := rfl
  have b1 : bt (⟨#[114, 111, 117]⟩ : ByteArray) 1 = 111 := rfl
  have b2 : bt (⟨#[114, 111, 117]⟩ : ByteArray) 2 = 117 := rfl
  have w1 : wrap64 ((0 : Int) + 1) = 1 := by rw [M.w64 (by omega) (by omega)]; rfl
  have w2 : wrap64 ((1 : Int) + 1) = 2 := by rw [M.w64 (by omega) (by omega)]; rfl
  have w3 : wrap64 ((2 : Int) + 1) = 3 := by rw [M.w64 (by omega) (by omega)]; rfl
  have last : ∀ K : Int, K = kindOf (bt s 0) → Ev (fun k => spec_nuParse.l0 k s 3 K v) r := by
    rintro K rfl
    refine M.Ev_succ (M.Ev_some fun k => ?_)
    simp only [spec_nuParse.l0, show ¬ ((3 : Int) < 3) by omega, if_false, spec_nuGood_eq, Option.bind_some]
    rw [← hr]
    split <;> rfl
  have step2 : ∀ K : Int, (if bt s 0 = 117 then 2 else K) = kindOf (bt s 0) → Ev (fun k => spec_nuParse.l0 k s 2 K v) r := by
    intro K hK
    refine M.Ev_succ ?_
    simp only [spec_nuParse.l0, show (2 : Int) < 3 by omega, if_true, show (0 : Int) < (s.size : Int) by omega, show (0 : Int) ≤ 2 by omega, b2, w3]
    by_cases c : bt s 0 = 117
    · simp only [c, if_true] at hK ⊢
      rw [← c] at hK
      exact last 2 hK
    · simp only [c, if_false] at hK ⊢
      exact last K hK
  have step1 : ∀ K : Int, (if bt s 0 = 117 then 2 else if bt s 0 = 111 then 1 else K) = kindOf (bt s 0) → Ev (fun k => spec_nuParse.l0 k s 1 K v) r := by
    intro K hK
    refine M.Ev_succ ?_
    simp only [spec_nuParse.l0, show (1 : Int) < 3 by omega, if_true, show (0 : Int) < (s.size : Int) by omega, show (0 : Int) ≤ 1 by omega, b1, w2]
    by_cases c : bt s 0 = 111
    · simp only [c, if_true]
      exact step2 1 (by rw [if_pos c] at hK; exact hK)
    · simp only [c, if_false]
      exact step2 K (by rw [if_neg c] at hK; exact hK)
  refine M.Ev_succ ?_
  simp only [spec_nuParse.l0, show (0 : Int) < 3 by omega, if_true, show (0 : Int) < (s.size : Int) by omega, show (0 : Int) ≤ 0 by omega, b0, w1]
  by_cases c : bt s 0 = 114
  · simp only [c, if_true]
    refine step1 0 ?_
    unfold kindOf
    rw [if_pos c]
  · simp only [c, if_false]
    refine step1 (-1) ?_
    unfold kindOf
    rw [if_neg c]
theorem u64_range (z : Int) : 0 ≤ IntKind.u64.wrap z ∧ IntKind.u64.wrap z < 18446744073709551616 := by
  simp [IntKind.wrap, IntKind.bits, IntKind.signed]
  omega
theorem and255 (z : Int) (h0 : 0 ≤ z) (h1 : z < 18446744073709551616) : 0 ≤ Go.bits .and .u64 z 255 ∧ Go.bits .and .u64 z 255 ≤ 255 := by
  obtain ⟨n, rfl⟩ := Int.eq_ofNat_of_zero_le h0
  rw [show (255 : Int) = ((255 : Nat) : Int) from rfl, bits_and_u64_nat _ _ (by omega) (by omega)]
  have := @Nat.and_le_right n 255
  omega
/-- Bytes, as numbers. -/
def InB (l : List Int) : Prop := ∀ x ∈ l, 0 ≤ x ∧ x ≤ 255
theorem rd_byte {l : List Int} (hl : InB l) {i : Int} (h1 : i < (l.length : Int)) (h0 : 0 ≤ i) : 0 ≤ rd l i ∧ rd l i ≤ 255 := by
  unfold rd
  rw [List.getD_eq_getElem?_getD, List.getElem?_eq_getElem (by omega)]
  exact hl _ (List.getElem_mem _)
theorem next_ok {l : List Int} (hl : InB l) {a : Int} (h0 : 0 ≤ a) (h1 : a ≤ 100000) (s : Int) : ∃ x s', spec_l1Cur_next.f l a s = some (x, a + 1, s') ∧ 0 ≤ x ∧ x ≤ 255 := by
  have e : wrap64 (a + 1) = a + 1 := M.w64 (by omega) (by omega)
  unfold spec_l1Cur_next.f
  rw [e]
  by_cases c : a < (l.length : Int)
  · have hb := rd_byte hl c h0
    rw [if_pos c, if_pos h0, M.w64 (x := rd l a) (by omega) (by omega), if_pos (by omega)]
    exact ⟨_, _, rfl, hb.1, hb.2⟩
  · rw [if_neg c, if_neg (by omega)]
    have g : ∀ y : Int, 0 ≤ wrap64 (Go.bits .and .u64 (IntKind.u64.wrap y / 1099511627776) 255) ∧ wrap64 (Go.bits .and .u64 (IntKind.u64.wrap y / 1099511627776) 255) ≤ 255 := by
      intro y
      have h := u64_range y
      have h2 := and255 (IntKind.u64.wrap y / 1099511627776) (by omega) (by omega)
      rw [M.w64 (by omega) (by omega)]
      exact h2
    exact ⟨_, _, rfl, g _⟩
theorem pick_ok {l : List Int} (hl : InB l) {a : Int} (h0 : 0 ≤ a) (h1 : a ≤ 90000) (s n : Int) : ∃ x a' s', spec_l1Cur_pick.f l a s n = some (x, a', s') ∧ 0 ≤ x ∧ (1 ≤ n → x < n) ∧ a ≤ a' ∧ a' ≤ a + 2 := by
  unfold spec_l1Cur_pick.f
  by_cases c : n ≤ 1
  · rw [if_pos c]
    exact ⟨_, _, _, rfl, by omega, by omega, by omega, by omega⟩
  · obtain ⟨x, s1, e1, hx0, hx1⟩ := next_ok hl h0 (by omega) s
    rw [if_neg c, e1]
    simp only [Option.bind_some]
    by_cases c2 : n > 200
    · obtain ⟨y, s2, e2, hy0, hy1⟩ := next_ok hl (a := a + 1) (by omega) (by omega) s1
      rw [if_pos c2, e2]
      simp only [Option.bind_some]
      rw [if_neg (by omega), M.w64 (x := x * 256) (by omega) (by omega), M.w64 (x := x * 256 + y) (by omega) (by omega)]
      exact ⟨_, _, _, rfl, Int.tmod_nonneg _ (by omega), fun _ => Int.tmod_lt_of_pos _ (by omega), by omega, by omega⟩
    · rw [if_neg c2, if_neg (by omega)]
      exact ⟨_, _, _, rfl, Int.tmod_nonneg _ (by omega), fun _ => Int.tmod_lt_of_pos _ (by omega), by omega, by omega⟩
theorem among_ok {l : List Int} (hl : InB l) {a : Int} (h0 : 0 ≤ a) (h1 : a ≤ 90000) (s : Int) (m : List Int) (hm : 1 ≤ m.length) : ∃ x a' s', spec_l1Cur_among.f l a s m = some (x, a', s') ∧ x ∈ m ∧ a ≤ a' ∧ a' ≤ a + 2 := by
  obtain ⟨x, a1, s1, e, hx0, hx1, ha⟩ := pick_ok hl h0 h1 s (m.length : Int)
  unfold spec_l1Cur_among.f
  rw [e]
  simp only [Option.bind_some]
  rw [if_pos hx0, if_pos (hx1 (by omega))]
  refine ⟨_, _, _, rfl, ?_, ha⟩
  unfold rd
  have := hx1 (by omega)
  rw [List.getD_eq_getElem?_getD, List.getElem?_eq_getElem (by omega)]
  exact List.getElem_mem _
theorem one_ok {l : List Int} (hl : InB l) {a : Int} (h0 : 0 ≤ a) (h1 : a ≤ 90000) (s n : Int) : ∃ b a' s', spec_l1Cur_one.f l a s n = some (b, a', s') ∧ a ≤ a' ∧ a' ≤ a + 2 := by
  obtain ⟨x, a1, s1, e, _, _, ha⟩ := pick_ok hl h0 h1 s n
  unfold spec_l1Cur_one.f
  rw [e]
  exact ⟨_, _, _, rfl, ha⟩
theorem spec_nuHouses_eq {k p : Int} (h : M.streetB k p = true) : spec_nuHouses.f k p = some (M.houses k p) := by
  have h' := M.streetB_iff.1 h
  unfold spec_nuHouses.f M.houses
  rw [M.w64 (by omega) (by omega)]
  split <;> rfl
theorem impl_housesOf_eq {k p : Int} (h : M.streetB k p = true) : impl_housesOf.f k p = some (M.houses k p) := by
  have h' := M.streetB_iff.1 h
  unfold impl_housesOf.f M.houses
  rw [M.w64 (by omega) (by omega)]
  split <;> rfl
theorem spec_nuAsked_eq (k p n : Int) : spec_nuAsked.f k p n = some (M.asked k p n) := by
  unfold spec_nuAsked.f M.asked
  simp only [spec_nuGood_eq, Option.bind_some]
  by_cases h : M.streetB k p = true
  · rw [if_pos h, spec_nuHouses_eq h]
    simp only [Option.bind_some, spec_l1In_eq, h, Bool.true_and]
  · rw [if_neg h]; simp [h]
theorem impl_isHouse_eq (k p n : Int) : impl_isHouse.f k p n = some (M.asked k p n) := by
  unfold impl_isHouse.f M.asked
  simp only [impl_IsStreet_eq, Option.bind_some]
  by_cases h : M.streetB k p = true
  · rw [if_pos h, impl_housesOf_eq h]
    simp only [Option.bind_some, impl_within_eq, h, Bool.true_and]
  · rw [if_neg h]; simp [h]
theorem spec_l1Num_ev : ∀ (n : Nat), n ≤ 9223372036854775807 → Ev (fun k => spec_l1Num.f k (n : Int)) (strOfNums (M.digs n)) := by
  intro n
  induction n using Nat.strongRecOn with
  | ind n ih =>
    intro hn
    by_cases h : n < 10
    · have e2 : (wrap64 (48 + (n : Int))) % 256 = 48 + (n : Int) := by rw [M.w64 (by omega) (by omega)]; omega
      refine M.Ev_succ (M.Ev_some fun k => ?_)
      simp only [spec_l1Num.f]
      rw [if_pos (by omega), M.digs_small h, e2]
    · have e1 : wrap64 (Int.tdiv (n : Int) 10) = ((n / 10 : Nat) : Int) := by
        rw [M.tdiv_pos (by omega), M.w64 (by omega) (by omega)]; omega
      have e2 : (wrap64 (48 + Int.tmod (n : Int) 10)) % 256 = 48 + ((n % 10 : Nat) : Int) := by
        rw [M.tmod_pos (by omega), M.w64 (by omega) (by omega)]; omega
      refine M.Ev_succ ?_
      simp only [spec_l1Num.f, e1, e2, show ¬ ((n : Int) < 10) by omega, if_false]
      refine Ev.bind (ih (n / 10) (by omega) (by omega)) (M.Ev_some fun k => ?_)
      have hs := M.digs_le20 (n := n / 10) (by omega)
      simp only [Option.bind_some]
      rw [if_pos (by rw [strOfNums_size, strOfNums_size]; simp; omega), M.strOfNums_append, M.digs_big h]
theorem sureStreet_ok {l : List Int} (hl : InB l) {a : Int} (h0 : 0 ≤ a) (h1 : a ≤ 80000) (s : Int) : ∃ k p a' s', spec_l1Cur_sureStreet.f l a s = some (k, p, a', s') ∧ 0 ≤ k ∧ k < 3 ∧ 1 ≤ p ∧ p ≤ 12 ∧ a ≤ a' ∧ a' ≤ a + 4 := by
  obtain ⟨x, a1, s1, e1, hx0, hx1, ha⟩ := pick_ok hl h0 (by omega) s 3
  obtain ⟨y, a2, s2, e2, hy0, hy1, hb⟩ := pick_ok hl (a := a1) (by omega) (by omega) s1 12
  have := hx1 (by omega)
  have := hy1 (by omega)
  unfold spec_l1Cur_sureStreet.f
  rw [e1]
  simp only [Option.bind_some]
  rw [e2]
  simp only [Option.bind_some]
  rw [M.w64 (by omega) (by omega)]
  exact ⟨_, _, _, _, rfl, by omega, by omega, by omega, by omega, by omega, by omega⟩
theorem street_ok {l : List Int} (hl : InB l) {a : Int} (h0 : 0 ≤ a) (h1 : a ≤ 70000) (s : Int) : ∃ k p a' s', spec_l1Cur_street.f l a s = some (k, p, a', s') ∧ a ≤ a' ∧ a' ≤ a + 8 := by
  obtain ⟨k, p, a1, s1, e1, _, _, _, _, ha⟩ := sureStreet_ok hl h0 (by omega) s
  obtain ⟨y, a2, s2, e2, _, _, hb⟩ := pick_ok hl (a := a1) (by omega) (by omega) s1 14
  unfold spec_l1Cur_street.f
  rw [e1]
  simp only [Option.bind_some]
  rw [e2]
  simp only [Option.bind_some]
  by_cases c : y = 0
  · obtain ⟨z, a3, s3, e3, _, hc⟩ := among_ok hl (a := a2) (by omega) (by omega) s2 [(-1), 3, 4611686018427387904] (by simp)
    rw [if_pos c, e3]
    exact ⟨_, _, a3, s3, rfl, by omega, by omega⟩
  · rw [if_neg c]
    by_cases c1 : y = 1
    · obtain ⟨z, a3, s3, e3, _, hc⟩ := among_ok hl (a := a2) (by omega) (by omega) s2 [0, (-1), 1000, 1001, 4611686018427387904] (by simp)
      rw [if_pos c1, e3]
      exact ⟨_, _, a3, s3, rfl, by omega, by omega⟩
    · rw [if_neg c1]
      exact ⟨_, _, _, _, rfl, by omega, by omega⟩
theorem house_ok {l : List Int} (hl : InB l) {a : Int} (h0 : 0 ≤ a) (h1 : a ≤ 70000) (s k p : Int) : ∃ x a' s', Ev (fun r => spec_l1Cur_house.f r l a s k p) (x, a', s') ∧ a ≤ a' ∧ a' ≤ a + 8 := by
  have bad : ∀ {a : Int} (_ : 0 ≤ a) (_ : a ≤ 80000) (s : Int), ∃ x a' s', Ev (fun r => spec_l1Cur_house.j0 r true l a s k p) (x, a', s') ∧ a ≤ a' ∧ a' ≤ a + 2 := by
    intro a h0 h1 s
    obtain ⟨z, a3, s3, e3, _, hc⟩ := among_ok hl h0 (by omega) s [0, (-1), 1, 2000, 4611686018427387904] (by simp)
    refine ⟨z, a3, s3, M.Ev_succ (M.Ev_some fun r => ?_), hc⟩
    simp only [spec_l1Cur_house.j0, if_true, e3, Option.bind_some]
  unfold spec_l1Cur_house.f
  simp only [spec_nuGood_eq, Option.bind_some]
  by_cases c : M.streetB k p = true
  · obtain ⟨b, a1, s1, e1, ha⟩ := one_ok hl h0 (by omega) s 12
    simp only [if_pos c, e1, Option.bind_some]
    cases b with
    | true =>
      obtain ⟨x, a', s', hx, hb⟩ := bad (a := a1) (by omega) (by omega) s1
      exact ⟨x, a', s', hx, by omega, by omega⟩
    | false =>
      obtain ⟨y, a2, s2, e2, _, _, hb⟩ := pick_ok hl (a := a1) (by omega) (by omega) s1 (M.houses k p)
      refine ⟨wrap64 (1 + y), a2, s2, M.Ev_succ (M.Ev_some fun r => ?_), by omega, by omega⟩
      simp only [spec_l1Cur_house.j0, Bool.false_eq_true, if_false, spec_nuHouses_eq c, Option.bind_some, e2]
  · simp only [if_neg c]
    obtain ⟨x, a', s', hx, hb⟩ := bad h0 (by omega) s
    exact ⟨x, a', s', hx, by omega, by omega⟩
theorem DrawPlotOf_ok {l : List Int} (hl : InB l) : ∃ k p n, Ev (fun r => spec_DrawPlotOf.f r l) (k, p, n) := by
  obtain ⟨k, p, a1, s1, e1, ha⟩ := street_ok hl (a := 0) (by omega) (by omega) 0
  obtain ⟨n, a2, s2, e2, _⟩ := house_ok hl (a := a1) (by omega) (by omega) s1 k p
  refine ⟨k, p, n, ?_⟩
  unfold spec_DrawPlotOf.f
  simp only [e1, Option.bind_some]
  exact Ev.bind e2 (M.Ev_some fun r => rfl)
theorem DrawNumberAt_ok {l : List Int} (hl : InB l) : ∃ k p s q, spec_DrawNumberAt.f l = some (k, p, s, q) := by
  obtain ⟨k, p, a1, s1, e1, ha⟩ := street_ok hl (a := 0) (by omega) (by omega) 0
  obtain ⟨x, a2, s2, e2, _, hb⟩ := among_ok hl (a := a1) (by omega) (by omega) s1 [0, 1, 0, 1, 2, (-1)] (by simp)
  obtain ⟨y, a3, s3, e3, _⟩ := pick_ok hl (a := a2) (by omega) (by omega) s2 14
  unfold spec_DrawNumberAt.f
  simp only [e1, e2, e3, Option.bind_some]
  exact ⟨_, _, _, _, rfl⟩
theorem DrawWalkBetween_ok {l : List Int} (hl : InB l) : ∃ k p a b w, Ev (fun r => spec_DrawWalkBetween.f r l) (k, p, a, b, w) := by
  obtain ⟨k, p, a1, s1, e1, ha⟩ := street_ok hl (a := 0) (by omega) (by omega) 0
  obtain ⟨x, a2, s2, e2, hb⟩ := house_ok hl (a := a1) (by omega) (by omega) s1 k p
  obtain ⟨y, a3, s3, e3, hc⟩ := house_ok hl (a := a2) (by omega) (by omega) s2 k p
  obtain ⟨z, a4, s4, e4, _⟩ := among_ok hl (a := a3) (by omega) (by omega) s3 [0, 1, 3, 1000, 1001, (-1)] (by simp)
  refine ⟨k, p, x, y, z, ?_⟩
  unfold spec_DrawWalkBetween.f
  simp only [e1, Option.bind_some]
  refine Ev.bind e2 (Ev.bind e3 (M.Ev_some fun r => ?_))
  simp only [e4, Option.bind_some]
theorem DrawSideNumbers_ok {l : List Int} (hl : InB l) : ∃ k p s, spec_DrawSideNumbers.f l = some (k, p, s) := by
  obtain ⟨k, p, a1, s1, e1, ha⟩ := street_ok hl (a := 0) (by omega) (by omega) 0
  obtain ⟨x, a2, s2, e2, _⟩ := among_ok hl (a := a1) (by omega) (by omega) s1 [0, 1, 1, 2, (-1)] (by simp)
  unfold spec_DrawSideNumbers.f
  simp only [e1, e2, Option.bind_some]
  exact ⟨_, _, _, rfl⟩
theorem add_sz (x y : ByteArray) : (x ++ y).size = x.size + y.size := ByteArray.size_append
theorem spoilt_loop {l : List Int} (hl : InB l) (w : ByteArray) (hw : 1 ≤ w.size) (hw2 : w.size ≤ 1000) : ∀ (n : Nat) (t : ByteArray) (a : Int) (s : Int), n ≤ 2 → t.size + n ≤ 1000 → 0 ≤ a → a + 6 * n ≤ 70000 → ∃ r a' s', Ev (fun k => spec_l1Cur_spoilt.l0 k t w (n : Int) l a s) (r, a', s') ∧ r.size ≤ t.size + n
  | 0, t, a, s, _, _, _, _ => by
    refine ⟨t, a, s, M.Ev_succ (M.Ev_succ (M.Ev_some fun k => ?_)), by omega⟩
    simp [spec_l1Cur_spoilt.l0, spec_l1Cur_spoilt.j1]
  | n + 1, t, a, s, hn, ht, h0, h1 => by
    by_cases c : t.size = 0
    · refine ⟨t, a, s, M.Ev_succ (M.Ev_succ (M.Ev_some fun k => ?_)), by omega⟩
      simp [spec_l1Cur_spoilt.l0, spec_l1Cur_spoilt.j1, c]
    · obtain ⟨i, a1, s1, e1, hi0, hi1, ha⟩ := pick_ok hl h0 (by omega) s (t.size : Int)
      obtain ⟨x, a2, s2, e2, hx0, hx1, hb⟩ := pick_ok hl (a := a1) (by omega) (by omega) s1 (w.size : Int)
      obtain ⟨z, a3, s3, e3, hz0, hz1, hc⟩ := pick_ok hl (a := a2) (by omega) (by omega) s2 3
      have hi := hi1 (by omega)
      have hx := hx1 (by omega)
      have ei : wrap64 (i + 1) = i + 1 := M.w64 (by omega) (by omega)
      have en : wrap64 (((n + 1 : Nat) : Int) - 1) = (n : Int) := by rw [M.w64 (by omega) (by omega)]; omega
      have q1 : (t.extract 0 i.toNat).size = i.toNat := by rw [ByteArray.size_extract]; omega
      have q2 : (t.extract i.toNat t.size).size = t.size - i.toNat := by rw [ByteArray.size_extract]; omega
      have q3 : (t.extract (i + 1).toNat t.size).size = t.size - i.toNat - 1 := by rw [ByteArray.size_extract]; omega
      have q4 : ∀ c : Int, (strOfNums [c]).size = 1 := fun c => by rw [strOfNums_size]; rfl
      have step : ∀ (u : ByteArray), u.size ≤ t.size + 1 → (∀ k, spec_l1Cur_spoilt.l0 (k + 1 + 1) t w ((n + 1 : Nat) : Int) l a s = spec_l1Cur_spoilt.l0 k u w (n : Int) l a3 s3) → ∃ r a' s', Ev (fun k => spec_l1Cur_spoilt.l0 k t w ((n + 1 : Nat) : Int) l a s) (r, a', s') ∧ r.size ≤ t.size + (n + 1) := by
        intro u hu hk
        obtain ⟨r, a', s', hr, hs⟩ := spoilt_loop hl w hw hw2 n u a3 s3 (by omega) (by omega) (by omega) (by omega)
        exact ⟨r, a', s', M.Ev_succ (M.Ev_succ (by simp only [hk]; exact hr)), by omega⟩
      have hp : ((n + 1 : Nat) : Int) > 0 := by omega
      have ht0 : decide ((t.size : Int) > 0) = true := decide_eq_true (by omega)
      by_cases z0 : z = 0
      · refine step (t.extract 0 i.toNat ++ strOfNums [bt w x] ++ t.extract i.toNat t.size) (by rw [add_sz, add_sz, q1, q2, q4]; omega) fun k => ?_
        simp only [spec_l1Cur_spoilt.l0, if_pos hp, spec_l1Cur_spoilt.j1, ht0, if_true, e1, e2, e3, Option.bind_some, if_pos hx0, if_pos hx, if_pos z0, if_pos hi0, if_pos (show i ≤ (t.size : Int) by omega), en]
        rw [if_pos (by rw [q1, q4]; omega), if_pos (by rw [add_sz, q1, q2, q4]; omega)]
      · by_cases z1 : z = 1
        · refine step (t.extract 0 i.toNat ++ strOfNums [bt w x] ++ t.extract (i + 1).toNat t.size) (by rw [add_sz, add_sz, q1, q3, q4]; omega) fun k => ?_
          simp only [spec_l1Cur_spoilt.l0, if_pos hp, spec_l1Cur_spoilt.j1, ht0, if_true, e1, e2, e3, Option.bind_some, if_pos hx0, if_pos hx, if_neg z0, if_pos z1, if_pos hi0, if_pos (show i ≤ (t.size : Int) by omega), en, ei, if_pos (show 0 ≤ i + 1 by omega), if_pos (show i + 1 ≤ (t.size : Int) by omega)]
          rw [if_pos (by rw [q1, q4]; omega), if_pos (by rw [add_sz, q1, q3, q4]; omega)]
        · refine step (t.extract 0 i.toNat ++ t.extract (i + 1).toNat t.size) (by rw [add_sz, q1, q3]; omega) fun k => ?_
          simp only [spec_l1Cur_spoilt.l0, if_pos hp, spec_l1Cur_spoilt.j1, ht0, if_true, e1, e2, e3, Option.bind_some, if_pos hx0, if_pos hx, if_neg z0, if_neg z1, if_pos hi0, if_pos (show i ≤ (t.size : Int) by omega), en, ei, if_pos (show 0 ≤ i + 1 by omega), if_pos (show i + 1 ≤ (t.size : Int) by omega)]
          rw [if_pos (by rw [q1, q3]; omega)]
theorem spoilt_ok {l : List Int} (hl : InB l) {a : Int} (h0 : 0 ≤ a) (h1 : a ≤ 60000) (s : Int) (t w : ByteArray) (ht : t.size ≤ 900) (hw : 1 ≤ w.size) (hw2 : w.size ≤ 1000) : ∃ r a' s', Ev (fun k => spec_l1Cur_spoilt.f k l a s t w) (r, a', s') ∧ r.size ≤ t.size + 2 := by
  obtain ⟨x, a1, s1, e1, hx0, hx1, ha⟩ := pick_ok hl h0 (by omega) s 2
  have hx := hx1 (by omega)
  obtain ⟨r, a', s', hr, hs⟩ := spoilt_loop hl w hw hw2 (1 + x).toNat t a1 s1 (by omega) (by omega) (by omega) (by omega)
  refine ⟨r, a', s', ?_, by omega⟩
  unfold spec_l1Cur_spoilt.f
  simp only [e1, Option.bind_some]
  rw [M.w64 (by omega) (by omega)]
  rw [show (((1 + x).toNat : Nat) : Int) = 1 + x by omega] at hr
  exact hr
/-- The text of a street. -/
def streetT (k p : Int) : ByteArray := (⟨#[114, 111, 117]⟩ : ByteArray).extract k.toNat (k + 1).toNat ++ strOfNums (M.digs p.toNat)
theorem kind_sz (k : Int) (h0 : 0 ≤ k) (h1 : k ≤ 2) : ((⟨#[114, 111, 117]⟩ : ByteArray).extract k.toNat (k + 1).toNat).size = 1 := by
  rw [ByteArray.size_extract, show (⟨#[114, 111, 117]⟩ : ByteArray).size = 3 from rfl]; omega
theorem nuText_ev {k p : Int} (h0 : 0 ≤ k) (h1 : k ≤ 2) (p0 : 0 ≤ p) (p1 : p ≤ 100000) : Ev (fun r => spec_nuText.f r k p) (streetT k p) := by
  obtain ⟨n, rfl⟩ := Int.eq_ofNat_of_zero_le p0
  have e1 : wrap64 (k + 1) = k + 1 := M.w64 (by omega) (by omega)
  have hs := M.digs_le20 (n := n) (by omega)
  have hz := kind_sz k h0 h1
  unfold spec_nuText.f
  simp only [e1, h0, show k ≤ k + 1 by omega, show k + 1 ≤ 3 by omega, if_true]
  refine Ev.bind (spec_l1Num_ev n (by omega)) (M.Ev_some fun r => ?_)
  rw [if_pos (by rw [hz, strOfNums_size]; omega)]
  rfl
theorem streetT_sz {k p : Int} (h0 : 0 ≤ k) (h1 : k ≤ 2) (p1 : p ≤ 100000) : (streetT k p).size ≤ 21 := by
  have hs := M.digs_le20 (n := p.toNat) (by omega)
  unfold streetT
  rw [add_sz, kind_sz k h0 h1, strOfNums_size]
  omega
theorem DrawParseStreet_ok {l : List Int} (hl : InB l) : ∃ t : ByteArray, Ev (fun r => spec_DrawParseStreet.f r l) t ∧ t.size ≤ 1000 := by
  obtain ⟨k, p, a1, s1, e1, k0, k1, p0, p1, ha⟩ := sureStreet_ok hl (a := 0) (by omega) (by omega) 0
  obtain ⟨b, a2, s2, e2, hb⟩ := one_ok hl (a := a1) (by omega) (by omega) s1 3
  have hz := streetT_sz k0 (show k ≤ 2 by omega) (show p ≤ 100000 by omega)
  unfold spec_DrawParseStreet.f
  simp only [e1, Option.bind_some]
  cases b with
  | true =>
    obtain ⟨r, a', s', hr, hs⟩ := spoilt_ok hl (a := a2) (by omega) (by omega) s2 (streetT k p) (⟨#[114, 111, 117, 48, 49, 50, 51, 120]⟩ : ByteArray) (by omega) (by decide) (by decide)
    refine ⟨r, Ev.bind (nuText_ev k0 (by omega) (by omega) (by omega)) ?_, by omega⟩
    simp only [e2, Option.bind_some, if_true]
    exact Ev.bind hr (M.Ev_some fun r => rfl)
  | false =>
    refine ⟨streetT k p, Ev.bind (nuText_ev k0 (by omega) (by omega) (by omega)) (M.Ev_some fun r => ?_), by omega⟩
    simp only [e2, Option.bind_some, Bool.false_eq_true, if_false]
theorem itoa_eq (n : Nat) (h : n ≤ 9223372036854775807) : strconv_Itoa_50.f (n : Int) = some (strOfNums (M.digs n)) := by
  unfold strconv_Itoa_50.f strOfNums Lib.itoa
  rw [if_pos ⟨by omega, by omega⟩, if_neg (by omega), Int.toNat_natCast, decDigits_eq]
def streetR (k p : Int) : ByteArray × Bool := if M.streetB k p = true then (streetT k p, true) else ((⟨#[]⟩ : ByteArray), false)
theorem StreetText_both (k p : Int) : Ev (fun r => spec_StreetText.f r k p) (streetR k p) ∧ impl_StreetText.f k p = some (streetR k p) := by
  unfold spec_StreetText.f impl_StreetText.f streetR
  simp only [spec_nuGood_eq, impl_IsStreet_eq, Option.bind_some]
  by_cases hb : M.streetB k p = true
  · have h := M.streetB_iff.1 hb
    simp only [if_pos hb]
    refine ⟨Ev.bind (nuText_ev h.1 h.2.1 (by omega) (by omega)) (M.Ev_some fun r => rfl), ?_⟩
    have e1 : wrap64 (k + 1) = k + 1 := M.w64 (by omega) (by omega)
    have hz := kind_sz k h.1 h.2.1
    have hs := M.digs_le20 (n := p.toNat) (by omega)
    obtain ⟨n, rfl⟩ := Int.eq_ofNat_of_zero_le (show 0 ≤ p by omega)
    rw [Int.toNat_natCast] at hs
    simp only [e1, h.1, show k ≤ k + 1 by omega, show k + 1 ≤ 3 by omega, if_true, itoa_eq n (by omega), Option.bind_some]
    rw [if_pos (by rw [hz, strOfNums_size]; omega)]
    rfl
  · simp only [if_neg hb]
    exact ⟨M.Ev_some fun r => rfl, trivial⟩
theorem cut_first (s : ByteArray) (h : 1 ≤ s.size) : s = strOfNums [bt s 0] ++ s.extract 1 s.size := by
  have hl : s.data.toList.length = s.size := by rw [Array.length_toList]; rfl
  refine bytes_eq ?_
  have e : bt s 0 = ((s.data.toList[0]'(by omega)).toNat : Int) := by
    unfold bt
    rw [dif_pos (show (0 : Int).toNat < s.size by have : (0 : Int).toNat = 0 := rfl; omega)]
    rfl
  have e2 : UInt8.ofNat (bt s 0).toNat = s.data.toList[0]'(by omega) := by
    rw [e, Int.toNat_natCast]
    simp
  rw [ByteArray.data_append, Array.toList_append, ByteArray.data_extract, Array.toList_extract, strOfNums_data]
  simp only [List.map_cons, List.map_nil, e2, List.extract_eq_take_drop]
  rw [List.take_of_length_le (by rw [List.length_drop]; omega)]
  exact List.drop_eq_getElem_cons (l := s.data.toList) (i := 0) (by omega)
theorem kind_text {k : Int} (h0 : 0 ≤ k) (h1 : k ≤ 2) : ∃ c : Int, 0 ≤ c ∧ c ≤ 255 ∧ (⟨#[114, 111, 117]⟩ : ByteArray).extract k.toNat (k + 1).toNat = strOfNums [c] ∧ kindOf c = k := by
  rcases (show k = 0 ∨ k = 1 ∨ k = 2 by omega) with rfl | rfl | rfl
  · exact ⟨114, by omega, by omega, bytes_eq (by decide), by decide⟩
  · exact ⟨111, by omega, by omega, bytes_eq (by decide), by decide⟩
  · exact ⟨117, by omega, by omega, bytes_eq (by decide), by decide⟩
theorem kind_back {c k : Int} (h : kindOf c = k) (h0 : 0 ≤ k) : (⟨#[114, 111, 117]⟩ : ByteArray).extract k.toNat (k + 1).toNat = strOfNums [c] := by
  unfold kindOf at h
  split at h
  · subst h; subst c; exact bytes_eq (by decide)
  · split at h
    · subst h; subst c; exact bytes_eq (by decide)
    · split at h
      · subst h; subst c; exact bytes_eq (by decide)
      · omega
theorem first_of (c : Int) (xs : List Int) (h0 : 0 ≤ c) (h1 : c ≤ 255) : bt (strOfNums [c] ++ strOfNums xs) 0 = c ∧ (strOfNums [c] ++ strOfNums xs).extract 1 (strOfNums [c] ++ strOfNums xs).size = strOfNums xs := by
  have e : strOfNums [c] ++ strOfNums xs = strOfNums (c :: xs) := bytes_eq (by rw [ByteArray.data_append, Array.toList_append, strOfNums_data, strOfNums_data, strOfNums_data]; rfl)
  rw [e]
  constructor
  · unfold bt
    rw [dif_pos (show (0 : Int).toNat < (strOfNums (c :: xs)).size by rw [strOfNums_size]; simp)]
    have : ((strOfNums (c :: xs)).data.toList)[0]'(by rw [strOfNums_data]; simp) = UInt8.ofNat c.toNat := by simp [strOfNums_data]
    have h2 : ((UInt8.ofNat c.toNat).toNat : Int) = c := by rw [u8_toNat _ (by omega)]; omega
    rw [← this] at h2
    exact h2
  · refine bytes_eq ?_
    rw [ByteArray.data_extract, Array.toList_extract, strOfNums_size, strOfNums_data, strOfNums_data]
    simp only [List.extract_eq_take_drop, List.map_cons, List.drop_succ_cons, List.drop_zero]
    exact List.take_of_length_le (by simp)
theorem ParseStreet_both (s : ByteArray) (hs9 : s.size ≤ 1000000000) : ∃ r : Int × Int × Bool, impl_ParseStreet.f s = some r ∧ Ev (fun k => spec_ParseStreet.f k s) r ∧ (r.2.2 = true → M.streetB r.1 r.2.1 = true ∧ s = streetT r.1 r.2.1) := by
  unfold spec_ParseStreet.f spec_nuParse.f impl_ParseStreet.f
  by_cases h0 : s.size = 0
  · have e : s.toList = [] := by rw [ByteArray.toList_eq]; exact List.eq_nil_of_length_eq_zero (by rw [Array.length_toList]; exact h0)
    simp only [spec_l1In_eq, Option.bind_some, decide_eq_false (show ¬ ((2 : Int) ≤ (s.size : Int) ∧ (s.size : Int) ≤ 5) by omega), Bool.false_eq_true, if_false, if_pos e]
    exact ⟨(0, 0, false), rfl, M.Ev_some fun k => rfl, by simp⟩
  · have e : ¬ s.toList = [] := by
      rw [ByteArray.toList_eq]
      intro z
      have := congrArg List.length z
      rw [Array.length_toList] at this
      exact h0 this
    have hxs : (s.extract 1 s.size).size = s.size - 1 := by rw [ByteArray.size_extract]; omega
    obtain ⟨q, hq, hq2⟩ := readNumber_any (s.extract 1 s.size) (by rw [hxs]; omega)
    obtain ⟨v, hv, hv2⟩ := l1Read_conv (s.extract 1 s.size) (by rw [hxs]; omega)
    simp only [if_neg e, show (1 : Int) ≤ (s.size : Int) by omega, show (0 : Int) < (s.size : Int) by omega, if_true, hq, kind_eq, Option.bind_some, impl_IsStreet_eq, spec_l1In_eq]
    by_cases hx : ∃ n : Nat, 1 ≤ n ∧ n ≤ 1000 ∧ s.extract 1 s.size = strOfNums (M.digs n)
    · obtain ⟨n, n1, n2, n3⟩ := hx
      have hd := digs_pos n
      have hd4 := digs_tight 3 n (by omega)
      have hz := hxs
      rw [n3, strOfNums_size] at hz
      have hqe : q = ((n : Int), true) := by rw [n3, readNumber_digs n (by omega)] at hq; exact (Option.some.inj hq).symm
      subst hqe
      have hl : Ev (fun k => spec_l1Read.f k (s.extract 1 s.size)) (n : Int) := by rw [n3]; exact l1Read_digs n n1 (by omega)
      simp only [decide_eq_true (show (2 : Int) ≤ (s.size : Int) ∧ (s.size : Int) ≤ 5 by omega), if_true]
      refine ⟨if M.streetB (kindOf (bt s 0)) (n : Int) = true then (kindOf (bt s 0), (n : Int), true) else (0, 0, false), ?_, Ev.bind (Ev.bind hl (kinds_ev s (by omega) n _ rfl)) (M.Ev_some fun k => rfl), ?_⟩
      · split <;> rfl
      · intro ht
        by_cases c : M.streetB (kindOf (bt s 0)) (n : Int) = true
        · rw [if_pos c]
          refine ⟨c, ?_⟩
          have h' := M.streetB_iff.1 c
          have hc := cut_first s (by omega)
          rw [n3] at hc
          unfold streetT
          rw [kind_back rfl h'.1, Int.toNat_natCast]
          exact hc
        · rw [if_neg c] at ht
          cases ht
    · have hi : ∀ w : Int, s.extract 1 s.size = strOfNums (M.digs w.toNat) → ¬ M.streetB (kindOf (bt s 0)) w = true := by
        intro w hw hst
        have := M.streetB_iff.1 hst
        exact hx ⟨w.toNat, by omega, by omega, hw⟩
      have himpl : (if q.2 = true then (if M.streetB (kindOf (bt s 0)) q.1 = true then some (kindOf (bt s 0), q.1, true) else some (0, 0, false)) else some (0, 0, false)) = some ((0 : Int), (0 : Int), false) := by
        rcases hq2 with rfl | ⟨h1, h2⟩
        · rfl
        · rw [if_pos h1]
          by_cases hst : M.streetB (kindOf (bt s 0)) q.1 = true
          · have := M.streetB_iff.1 hst
            exact absurd hst (hi q.1 (nums_of_itoa (by omega) h2))
          · rw [if_neg hst]
      rw [himpl]
      refine ⟨(0, 0, false), rfl, ?_, by simp⟩
      by_cases c2 : (2 : Int) ≤ (s.size : Int) ∧ (s.size : Int) ≤ 5
      · simp only [decide_eq_true c2, if_true]
        have hst : ¬ M.streetB (kindOf (bt s 0)) v = true := by
          intro hst
          exact hi v (hv2 (M.streetB_iff.1 hst).2.2.1) hst
        have hk : Ev (fun k => spec_nuParse.l0 k s 0 (-1) v) ((0 : Int), (0 : Int), false) := kinds_ev s (by clear hq2 himpl; omega) v _ (by rw [if_neg hst])
        exact Ev.bind (Ev.bind hv hk) (M.Ev_some fun k => rfl)
      · simp only [decide_eq_false c2, Bool.false_eq_true, if_false, Option.bind_some]
        exact M.Ev_some fun k => rfl
theorem ParseStreet_text {k p : Int} (h : M.streetB k p = true) : impl_ParseStreet.f (streetT k p) = some (k, p, true) := by
  have h' := M.streetB_iff.1 h
  obtain ⟨c, c0, c1, hc, hk⟩ := kind_text h'.1 h'.2.1
  obtain ⟨n, rfl⟩ := Int.eq_ofNat_of_zero_le (show 0 ≤ p by omega)
  obtain ⟨f1, f2⟩ := first_of c (M.digs n) c0 c1
  have hs : streetT k n = strOfNums [c] ++ strOfNums (M.digs n) := by unfold streetT; rw [hc, Int.toNat_natCast]
  rw [hs]
  have hz : (strOfNums [c] ++ strOfNums (M.digs n)).size = 1 + (M.digs n).length := by rw [add_sz, strOfNums_size, strOfNums_size]; rfl
  have e : ¬ (strOfNums [c] ++ strOfNums (M.digs n)).toList = [] := by
    rw [ByteArray.toList_eq]
    intro z
    have := congrArg List.length z
    rw [Array.length_toList] at this
    have h2 : (strOfNums [c] ++ strOfNums (M.digs n)).size = 0 := this
    omega
  unfold impl_ParseStreet.f
  simp only [if_neg e, show (1 : Int) ≤ ((strOfNums [c] ++ strOfNums (M.digs n)).size : Int) by omega, show (0 : Int) < ((strOfNums [c] ++ strOfNums (M.digs n)).size : Int) by omega, if_true, f2, readNumber_digs n (by omega), Option.bind_some, kind_eq]
  simp only [f1, hk, impl_IsStreet_eq, h, Option.bind_some, if_true]
theorem spec_nuPlot_eq {k p n : Int} (h : M.asked k p n = true) : spec_nuPlot.f k p n = some (M.side k p n, M.plot k p n) := by
  have hb := M.asked_bd h
  unfold spec_nuPlot.f M.side M.plot
  rw [M.tmod_pos (a := n) (by omega), M.w64 (x := n - 1) (by omega) (by omega), M.tdiv_pos (a := n - 1) (by omega), M.w64 (x := 1 - n % 2) (by omega) (by omega), M.w64 (x := (n - 1) / 2) (by omega) (by omega), M.w64 (x := 2 * p) (by omega) (by omega), M.w64 (x := 2 * p - n) (by omega) (by omega)]
  by_cases c : k = 1
  · simp only [c, if_true]
    rw [show 1 - n % 2 = (n - 1) % 2 by omega]
  · simp only [c, if_false]
    split <;> rfl
theorem impl_plotOf_eq {k p n : Int} (h : M.asked k p n = true) : impl_plotOf.f k p n = some (M.side k p n, M.plot k p n) := by
  have hb := M.asked_bd h
  unfold impl_plotOf.f M.side M.plot
  rw [M.w64 (x := n - 1) (by omega) (by omega), M.tmod_pos (a := n - 1) (by omega), M.tdiv_pos (a := n - 1) (by omega), M.w64 (x := (n - 1) / 2) (by omega) (by omega), M.w64 (x := 2 * p) (by omega) (by omega), M.w64 (x := 2 * p - n) (by omega) (by omega)]
  by_cases c : k = 1
  · simp only [c, if_true]
  · simp only [c, if_false]
    split <;> rfl
def plotR (k p n : Int) : Int × Int × Bool := if M.asked k p n = true then (M.side k p n, M.plot k p n, true) else (0, 0, false)
theorem spec_PlotOf_eq (k p n : Int) : spec_PlotOf.f k p n = some (plotR k p n) := by
  unfold spec_PlotOf.f plotR
  simp only [spec_nuAsked_eq, Option.bind_some]
  by_cases h : M.asked k p n = true
  · simp only [h, if_true, spec_nuPlot_eq h, Option.bind_some]
  · simp only [h, Bool.false_eq_true, if_false]
theorem impl_PlotOf_eq (k p n : Int) : impl_PlotOf.f k p n = some (plotR k p n) := by
  unfold impl_PlotOf.f plotR
  simp only [impl_isHouse_eq, Option.bind_some]
  by_cases h : M.asked k p n = true
  · simp only [h, if_true, impl_plotOf_eq h, Option.bind_some]
  · simp only [h, Bool.false_eq_true, if_false]
theorem spec_nuNumber_eq {k p s q : Int} (h : M.streetB k p = true) (hs : 0 ≤ s ∧ s ≤ 1) (hq : 0 ≤ q ∧ q < p) : spec_nuNumber.f k p s q = some (M.number k p s q) := by
  have h' := M.streetB_iff.1 h
  unfold spec_nuNumber.f M.number
  rw [M.w64 (x := 2 * q) (by omega) (by omega), M.w64 (x := 2 * q + 1) (by omega) (by omega), M.w64 (x := 2 * q + 1 + s) (by omega) (by omega), M.w64 (x := 2 * p) (by omega) (by omega), M.w64 (x := 2 * p - q) (by omega) (by omega), M.w64 (x := q + 1) (by omega) (by omega)]
  repeat' split
  all_goals rfl
theorem impl_numberAt_eq {k p s q : Int} (h : M.streetB k p = true) (hs : 0 ≤ s ∧ s ≤ 1) (hq : 0 ≤ q ∧ q < p) : impl_numberAt.f k p s q = some (M.number k p s q) := by
  have h' := M.streetB_iff.1 h
  unfold impl_numberAt.f M.number
  rw [M.w64 (x := 2 * q) (by omega) (by omega), M.w64 (x := 2 * q + 1) (by omega) (by omega), M.w64 (x := 2 * q + 1 + s) (by omega) (by omega), M.w64 (x := 2 * p) (by omega) (by omega), M.w64 (x := 2 * p - q) (by omega) (by omega), M.w64 (x := q + 1) (by omega) (by omega)]
  repeat' split
  all_goals rfl
def oppR (k p n : Int) : Int × Bool := if M.asked k p n = true ∧ k ≠ 0 then (M.number k p (1 - M.side k p n) (M.plot k p n), true) else (0, false)
theorem spec_OppositeOf_ev (k p n : Int) : Ev (fun r => spec_OppositeOf.f r k p n) (oppR k p n) := by
  unfold spec_OppositeOf.f oppR
  simp only [spec_nuAsked_eq, Option.bind_some]
  by_cases h : M.asked k p n = true
  · have hb := M.asked_bd h
    by_cases c : k = 0
    · simp only [h, c, if_true]
      exact M.Ev_succ (M.Ev_some fun r => by simp [spec_OppositeOf.j0])
    · simp only [h, if_true, true_and, show (k == 0) = false by simpa using c]
      refine M.Ev_succ (M.Ev_some fun r => ?_)
      simp only [spec_OppositeOf.j0, Bool.false_eq_true, if_false, spec_nuPlot_eq h, Option.bind_some]
      rw [M.w64 (x := 1 - M.side k p n) (by omega) (by omega), spec_nuNumber_eq (M.asked_iff.1 h).1 (by omega) (by omega), if_pos c]
      rfl
  · simp only [h, if_false, false_and]
    exact M.Ev_succ (M.Ev_some fun r => by simp [spec_OppositeOf.j0])
theorem impl_OppositeOf_ev (k p n : Int) : Ev (fun r => impl_OppositeOf.f r k p n) (oppR k p n) := by
  unfold impl_OppositeOf.f oppR
  simp only [impl_isHouse_eq, Option.bind_some]
  by_cases h : M.asked k p n = true
  · have hb := M.asked_bd h
    by_cases c : k = 0
    · simp only [h, c, if_true]
      exact M.Ev_succ (M.Ev_some fun r => by simp [impl_OppositeOf.j0])
    · simp only [h, if_true, true_and, show (k == 0) = false by simpa using c]
      refine M.Ev_succ (M.Ev_some fun r => ?_)
      simp only [impl_OppositeOf.j0, Bool.false_eq_true, if_false, impl_plotOf_eq h, Option.bind_some]
      rw [M.w64 (x := 1 - M.side k p n) (by omega) (by omega), impl_numberAt_eq (M.asked_iff.1 h).1 (by omega) (by omega), if_pos c]
      rfl
  · simp only [h, if_false, false_and]
    exact M.Ev_succ (M.Ev_some fun r => by simp [impl_OppositeOf.j0])
def isAt (k p s q : Int) : Prop := M.streetB k p = true ∧ (s = 0 ∨ s = 1 ∧ 0 < k) ∧ 0 ≤ q ∧ q < p
instance (k p s q : Int) : Decidable (isAt k p s q) := by unfold isAt; infer_instance
theorem spec_NumberAt_eq (k p s q : Int) : spec_NumberAt.f k p s q = some (if isAt k p s q then (M.number k p s q, true) else (0, false)) := by
  unfold spec_NumberAt.f spec_nuSide.f
  simp only [spec_nuGood_eq, spec_l1In_eq, Option.bind_some]
  by_cases h : M.streetB k p = true
  · have h' := M.streetB_iff.1 h
    rw [if_pos h, M.w64 (x := p - 1) (by omega) (by omega)]
    by_cases hs : s = 0 ∨ s = 1 ∧ 0 < k
    · have e : (if s = 0 then some true else if s = 1 then some (decide (k > 0)) else some false) = some true := by
        rcases hs with hs | ⟨hs, hk⟩
        · rw [if_pos hs]
        · rw [if_neg (by omega), if_pos hs]; simp [hk]
      rw [e]
      simp only [Option.bind_some, if_true]
      by_cases hq : 0 ≤ q ∧ q < p
      · rw [if_pos (by simp; omega), spec_nuNumber_eq h (by omega) hq, if_pos ⟨h, hs, hq⟩]; rfl
      · rw [if_neg (by simp; omega), if_neg (fun z => hq z.2.2)]
    · have e : (if s = 0 then some true else if s = 1 then some (decide (k > 0)) else some false) = some false := by
        rw [if_neg (by omega)]
        by_cases h1 : s = 1
        · rw [if_pos h1]; simp; omega
        · rw [if_neg h1]
      rw [e]
      simp only [Option.bind_some]
      rw [if_neg (by decide), if_neg (fun z => hs z.2.1)]
  · rw [if_neg h, if_neg (fun z => h z.1)]
theorem impl_NumberAt_eq (k p s q : Int) : impl_NumberAt.f k p s q = some (if isAt k p s q then (M.number k p s q, true) else (0, false)) := by
  unfold impl_NumberAt.f
  simp only [impl_IsStreet_eq, impl_within_eq, Option.bind_some]
  by_cases h : M.streetB k p = true
  · have h' := M.streetB_iff.1 h
    rw [if_pos h, M.w64 (x := p - 1) (by omega) (by omega)]
    by_cases hs : 0 ≤ s ∧ s ≤ 1
    · rw [if_pos (by simpa using hs)]
      by_cases hq : 0 ≤ q ∧ q < p
      · rw [if_pos (by simp; omega)]
        by_cases hk : k = 0
        · rw [if_pos hk]
          by_cases h1 : s = 1
          · rw [if_pos h1, if_neg (fun z => by have := z.2.1; omega)]
          · rw [if_neg h1, impl_numberAt_eq h hs hq, if_pos ⟨h, by omega, hq⟩]; rfl
        · rw [if_neg hk, impl_numberAt_eq h hs hq, if_pos ⟨h, by omega, hq⟩]; rfl
      · rw [if_neg (by simp; omega), if_neg (fun z => hq z.2.2)]
    · rw [if_neg (by simpa using hs), if_neg (fun z => by have := z.2.1; omega)]
  · rw [if_neg h, if_neg (fun z => h z.1)]
theorem spec_l1Abs_eq {x : Int} (h0 : -1000000 ≤ x) (h1 : x ≤ 1000000) : spec_l1Abs.f x = some (x.natAbs : Int) := by
  unfold spec_l1Abs.f spec_l1Most.f
  rw [M.w64 (x := -x) (by omega) (by omega)]
  by_cases c : x > -x
  · rw [if_pos c]; simp only [Option.bind_some]; congr 1; omega
  · rw [if_neg c]; simp only [Option.bind_some]; congr 1; omega
theorem impl_absOf_eq {x : Int} (h0 : -1000000 ≤ x) (h1 : x ≤ 1000000) : impl_absOf.f x = some (x.natAbs : Int) := by
  unfold impl_absOf.f mx
  rw [M.w64 (x := -x) (by omega) (by omega)]
  congr 1
  split <;> omega
def walkR (k p a b w : Int) : Int × Bool := if M.asked k p a = true ∧ M.asked k p b = true ∧ 0 ≤ w ∧ w ≤ 1000 then
  (if M.side k p a = M.side k p b then (((M.plot k p a - M.plot k p b).natAbs : Int), true) else (((M.plot k p a - M.plot k p b).natAbs : Int) + w, true)) else (0, false)
theorem spec_WalkBetween_ev (k p a b w : Int) : Ev (fun r => spec_WalkBetween.f r k p a b w) (walkR k p a b w) := by
  unfold spec_WalkBetween.f walkR
  simp only [spec_nuAsked_eq, Option.bind_some]
  by_cases h : M.asked k p a = true
  · have hb := M.asked_bd h
    by_cases h' : M.asked k p b = true
    · have hb' := M.asked_bd h'
      simp only [h, h', if_true, true_and, spec_l1In_eq, Option.bind_some]
      by_cases c : 0 ≤ w ∧ w ≤ 1000
      · refine M.Ev_succ (M.Ev_some fun r => ?_)
        simp only [spec_WalkBetween.j0, c, and_self, decide_true, Bool.not_true, Bool.false_eq_true, if_false, if_true, spec_nuPlot_eq h, spec_nuPlot_eq h', Option.bind_some]
        rw [M.w64 (x := M.plot k p a - M.plot k p b) (by omega) (by omega), spec_l1Abs_eq (by omega) (by omega)]
        simp only [Option.bind_some]
        rw [M.w64 (by omega) (by omega)]
        split <;> rfl
      · simp only [c, decide_false, Bool.not_false, if_false]
        exact M.Ev_succ (M.Ev_some fun r => by simp [spec_WalkBetween.j0])
    · simp only [h, h', if_true, if_false, true_and, false_and]
      exact M.Ev_succ (M.Ev_some fun r => by simp [spec_WalkBetween.j0])
  · simp only [h, if_false, false_and]
    exact M.Ev_succ (M.Ev_some fun r => by simp [spec_WalkBetween.j0])
theorem impl_WalkBetween_ev (k p a b w : Int) : Ev (fun r => impl_WalkBetween.f r k p a b w) (walkR k p a b w) := by
  unfold impl_WalkBetween.f walkR
  simp only [impl_isHouse_eq, Option.bind_some]
  by_cases h : M.asked k p a = true
  · have hb := M.asked_bd h
    by_cases h' : M.asked k p b = true
    · have hb' := M.asked_bd h'
      simp only [h, h', if_true, true_and, impl_within_eq, Option.bind_some]
      by_cases c : 0 ≤ w ∧ w ≤ 1000
      · refine M.Ev_succ (M.Ev_some fun r => ?_)
        simp only [impl_WalkBetween.j0, c, and_self, decide_true, Bool.not_true, Bool.false_eq_true, if_false, if_true, impl_plotOf_eq h, impl_plotOf_eq h', Option.bind_some]
        rw [M.w64 (x := M.plot k p a - M.plot k p b) (by omega) (by omega), impl_absOf_eq (by omega) (by omega)]
        simp only [Option.bind_some]
        rw [M.w64 (by omega) (by omega)]
        split <;> rfl
      · simp only [c, decide_false, Bool.not_false, if_false]
        exact M.Ev_succ (M.Ev_some fun r => by simp [impl_WalkBetween.j0])
    · simp only [h, h', if_true, if_false, true_and, false_and]
      exact M.Ev_succ (M.Ev_some fun r => by simp [impl_WalkBetween.j0])
  · simp only [h, if_false, false_and]
    exact M.Ev_succ (M.Ev_some fun r => by simp [impl_WalkBetween.j0])
theorem nuSide_eq (k p s : Int) (hk : 0 ≤ k) (hs : 0 ≤ s ∧ s ≤ 1) : spec_nuSide.f k p s = some (!decide (s = 1 ∧ k = 0)) := by
  unfold spec_nuSide.f
  by_cases c : s = 0
  · rw [if_pos c]; simp [c]
  · have c1 : s = 1 := by omega
    rw [if_neg c, if_pos c1]
    simp only [Option.some.injEq, c1, true_and]
    rw [Bool.eq_iff_iff]; simp; omega
theorem nuNumbers_loop {k p s : Int} (h : M.streetB k p = true) (hs : 0 ≤ s ∧ s ≤ 1) (hn : ¬ (s = 1 ∧ k = 0)) : ∀ (d i : Nat), (i : Int) ≤ p → p.toNat - i = d →
    Ev (fun r => spec_nuNumbers.l0 r s (M.numsL k p s i) (i : Int) k p) (M.numsL k p s p.toNat) := by
  have hp := M.streetB_iff.1 h
  intro d
  induction d with
  | zero =>
    intro i hi hd
    refine M.Ev_succ (M.Ev_some fun r => ?_)
    simp only [spec_nuNumbers.l0]
    rw [if_neg (by omega), show i = p.toNat by omega]
  | succ d ih =>
    intro i hi hd
    have e : wrap64 ((i : Int) + 1) = ((i + 1 : Nat) : Int) := by rw [M.w64 (by omega) (by omega)]; omega
    refine M.Ev_succ ?_
    simp only [spec_nuNumbers.l0, show (i : Int) < p by omega, if_true, nuSide_eq k p s hp.1 hs, hn, decide_false, Bool.not_false, Option.bind_some, spec_nuNumber_eq h hs (show 0 ≤ (i : Int) ∧ (i : Int) < p by omega), M.numsL_length, show i < 17592186044416 by omega, e]
    rw [← M.numsL_succ]
    exact ih (i + 1) (by omega) (by omega)
theorem nuNumbers_ev {k p s : Int} (h : M.streetB k p = true) (hs : 0 ≤ s ∧ s ≤ 1) : Ev (fun r => spec_nuNumbers.f r k p s) (M.numsR k p s) := by
  have hp := M.streetB_iff.1 h
  unfold spec_nuNumbers.f M.numsR
  by_cases c : s = 1 ∧ k = 0
  · rw [if_pos c]
    refine M.Ev_succ (M.Ev_some fun r => ?_)
    simp only [spec_nuNumbers.l0]
    rw [if_pos (by omega), nuSide_eq k p s hp.1 hs, decide_eq_true c]
    rfl
  · rw [if_neg c]
    exact nuNumbers_loop h hs c p.toNat 0 (by omega) (by omega)
theorem sideNumbers_loop {k p s : Int} (h : M.streetB k p = true) (hs : 0 ≤ s ∧ s ≤ 1) (n : Nat) (hn : (n : Int) = p) : ∀ (d i : Nat) (acc : List Int), i ≤ n → n - i = d → acc.length = n → acc.take i = (M.numsL k p s n).take i →
    Ev (fun r => impl_sideNumbers.l0 r s acc (n : Int) (i : Int) k p) (M.numsL k p s n) := by
  have hp := M.streetB_iff.1 h
  intro d
  induction d with
  | zero =>
    intro i acc hi hd ha ht
    refine M.Ev_succ (M.Ev_some fun r => ?_)
    simp only [impl_sideNumbers.l0]
    rw [if_neg (by omega), M.take_all (by omega) (by rw [M.numsL_length]; omega) ht]
  | succ d ih =>
    intro i acc hi hd ha ht
    have e : wrap64 ((i : Int) + 1) = ((i + 1 : Nat) : Int) := by rw [M.w64 (by omega) (by omega)]; omega
    refine M.Ev_succ ?_
    simp only [impl_sideNumbers.l0, show (i : Int) < (n : Int) by omega, if_true, impl_numberAt_eq h hs (show 0 ≤ (i : Int) ∧ (i : Int) < p by omega), Option.bind_some, show (0 : Int) ≤ (i : Int) by omega, show (i : Int) < (acc.length : Int) by omega, e, Int.toNat_natCast]
    refine ih (i + 1) _ (by omega) (by omega) (by rw [List.length_set]; exact ha) ?_
    exact M.take_set_succ (by omega) (by rw [M.numsL_length]; omega) ht (by rw [M.numsL_get])
theorem sideNumbers_ev {k p s : Int} (h : M.streetB k p = true) (hs : 0 ≤ s ∧ s ≤ 1) : Ev (fun r => impl_sideNumbers.f r k p s) (M.numsR k p s) := by
  have hp := M.streetB_iff.1 h
  have main : ¬ (s = 1 ∧ k = 0) → Ev (fun r => impl_sideNumbers.j0 r s false k p) (M.numsL k p s p.toNat) := by
    intro c
    refine M.Ev_succ ?_
    simp only [impl_sideNumbers.j0, Bool.false_eq_true, if_false, show 0 ≤ p by omega, if_true, show p.toNat ≤ 35184372088832 by omega, Option.bind_some, List.length_replicate]
    exact sideNumbers_loop h hs p.toNat (by omega) p.toNat 0 _ (by omega) (by omega) (by simp) (by simp)
  unfold impl_sideNumbers.f M.numsR
  by_cases ck : k = 0
  · simp only [if_pos ck]
    by_cases cs : s = 1
    · rw [if_pos ⟨cs, ck⟩]
      refine M.Ev_succ (M.Ev_some fun r => ?_)
      simp [impl_sideNumbers.j0, cs]
    · rw [if_neg (fun z => cs z.1), show (s == 1) = false by simpa using cs]
      exact main (fun z => cs z.1)
  · simp only [if_neg ck]
    rw [if_neg (fun z => ck z.2)]
    exact main (fun z => ck z.2)
def sideNumsR (k p s : Int) : List Int × Bool := if M.streetB k p = true ∧ 0 ≤ s ∧ s ≤ 1 then (M.numsR k p s, true) else ([], false)
theorem SideNumbers_ev (k p s : Int) : Ev (fun r => spec_SideNumbers.f r k p s) (sideNumsR k p s) ∧ Ev (fun r => impl_SideNumbers.f r k p s) (sideNumsR k p s) := by
  unfold spec_SideNumbers.f impl_SideNumbers.f sideNumsR
  simp only [spec_nuGood_eq, impl_IsStreet_eq, Option.bind_some]
  by_cases h : M.streetB k p = true
  · simp only [h, if_true, spec_l1In_eq, impl_within_eq, Option.bind_some, true_and]
    by_cases c : 0 ≤ s ∧ s ≤ 1
    · simp only [c, and_self, decide_true, if_true]
      exact ⟨Ev.bind (nuNumbers_ev h c) (M.Ev_some fun k => rfl), Ev.bind (sideNumbers_ev h c) (M.Ev_some fun k => rfl)⟩
    · simp only [c, decide_false, Bool.false_eq_true, if_false]
      exact ⟨M.Ev_some fun r => rfl, M.Ev_some fun r => rfl⟩
  · simp only [h, Bool.false_eq_true, if_false, false_and]
    exact ⟨M.Ev_some fun r => rfl, M.Ev_some fun r => rfl⟩
theorem sideNumsR_len (k p s : Int) : (sideNumsR k p s).1.length ≤ 1000 := by
  unfold sideNumsR
  split
  · rename_i h
    exact M.numsR_len h.1
  · simp
theorem sum_loop_spec (l : List Int) (hl : l.length ≤ 1000) (hb : ∀ x ∈ l, 0 ≤ x ∧ x ≤ 3000) : ∀ (d i : Nat), i ≤ l.length → l.length - i = d → Ev (fun r => spec_SideSum.l0 r (M.sumL (l.take i)) l (l.length : Int) (i : Int)) (M.sumL l, true) := by
  intro d
  induction d with
  | zero =>
    intro i hi hd
    refine M.Ev_succ (M.Ev_some fun r => ?_)
    simp only [spec_SideSum.l0]
    rw [if_neg (by omega), List.take_of_length_le (by omega)]
  | succ d ih =>
    intro i hi hd
    have hil : i < l.length := by omega
    have e : wrap64 ((i : Int) + 1) = ((i + 1 : Nat) : Int) := by rw [M.w64 (by omega) (by omega)]; omega
    have b1 := M.sumL_bd (l := l.take i) 3000 (by omega) (fun x hx => hb x (List.mem_of_mem_take hx))
    have b2 : ((l.take i).length : Int) ≤ 1000 := by simp; omega
    have b3 := hb l[i] (List.getElem_mem _)
    refine M.Ev_succ ?_
    simp only [spec_SideSum.l0, show (i : Int) < (l.length : Int) by omega, show (0 : Int) ≤ (i : Int) by omega, if_true, M.rd_get hil, e]
    rw [M.w64 (by omega) (by omega), ← M.sumL_take_succ hil]
    exact ih (i + 1) (by omega) (by omega)
theorem sum_loop_impl (l : List Int) (hl : l.length ≤ 1000) (hb : ∀ x ∈ l, 0 ≤ x ∧ x ≤ 3000) : ∀ (d i : Nat), i ≤ l.length → l.length - i = d → Ev (fun r => impl_sumOf.l0 r (M.sumL (l.take i)) l (l.length : Int) (i : Int)) (M.sumL l) := by
  intro d
  induction d with
  | zero =>
    intro i hi hd
    refine M.Ev_succ (M.Ev_some fun r => ?_)
    simp only [impl_sumOf.l0]
    rw [if_neg (by omega), List.take_of_length_le (by omega)]
  | succ d ih =>
    intro i hi hd
    have hil : i < l.length := by omega
    have e : wrap64 ((i : Int) + 1) = ((i + 1 : Nat) : Int) := by rw [M.w64 (by omega) (by omega)]; omega
    have b1 := M.sumL_bd (l := l.take i) 3000 (by omega) (fun x hx => hb x (List.mem_of_mem_take hx))
    have b2 : ((l.take i).length : Int) ≤ 1000 := by simp; omega
    have b3 := hb l[i] (List.getElem_mem _)
    refine M.Ev_succ ?_
    simp only [impl_sumOf.l0, show (i : Int) < (l.length : Int) by omega, show (0 : Int) ≤ (i : Int) by omega, if_true, M.rd_get hil, e]
    rw [M.w64 (by omega) (by omega), ← M.sumL_take_succ hil]
    exact ih (i + 1) (by omega) (by omega)
def sideSumR (k p s : Int) : Int × Bool := if M.streetB k p = true ∧ 0 ≤ s ∧ s ≤ 1 then (M.sumL (M.numsR k p s), true) else (0, false)
theorem SideSum_ev (k p s : Int) : Ev (fun r => spec_SideSum.f r k p s) (sideSumR k p s) ∧ Ev (fun r => impl_SideSum.f r k p s) (sideSumR k p s) := by
  unfold spec_SideSum.f impl_SideSum.f sideSumR
  simp only [spec_nuGood_eq, impl_IsStreet_eq, Option.bind_some]
  by_cases h : M.streetB k p = true
  · simp only [h, if_true, spec_l1In_eq, impl_within_eq, Option.bind_some, true_and]
    by_cases c : 0 ≤ s ∧ s ≤ 1
    · simp only [c, and_self, decide_true, Bool.not_true, if_true]
      have hl := M.numsR_len (s := s) h
      have hb := M.numsR_bd h c
      refine ⟨M.Ev_succ ?_, M.Ev_succ ?_⟩
      · simp only [spec_SideSum.j0, Bool.false_eq_true, if_false]
        exact Ev.bind (nuNumbers_ev h c) (sum_loop_spec _ hl hb (M.numsR k p s).length 0 (Nat.zero_le _) (by omega))
      · simp only [impl_SideSum.j0, Bool.false_eq_true, if_false]
        refine Ev.bind (sideNumbers_ev h c) (Ev.bind ?_ (M.Ev_some fun k => rfl))
        unfold impl_sumOf.f
        exact sum_loop_impl _ hl hb (M.numsR k p s).length 0 (Nat.zero_le _) (by omega)
    · simp only [c, decide_false, Bool.not_false, if_false]
      exact ⟨M.Ev_succ (M.Ev_some fun r => by simp [spec_SideSum.j0]), M.Ev_succ (M.Ev_some fun r => by simp [impl_SideSum.j0])⟩
  · simp only [h, Bool.false_eq_true, if_false, false_and]
    exact ⟨M.Ev_succ (M.Ev_some fun r => by simp [spec_SideSum.j0]), M.Ev_succ (M.Ev_some fun r => by simp [impl_SideSum.j0])⟩
theorem ms_eq (l m : List Int) (hp : m.Perm l) (hs : m.Pairwise (fun x y => x ≤ y)) : l.mergeSort (fun x y => decide (x ≤ y)) = m := by
  refine List.Perm.eq_of_pairwise (le := fun x y => x ≤ y) (fun a b _ _ h1 h2 => Int.le_antisymm h1 h2) ?_ hs ((List.mergeSort_perm l _).trans hp.symm)
  have := List.pairwise_mergeSort (le := fun x y : Int => decide (x ≤ y)) (by intro a b c; simp; omega) (by intro a b; simp; omega) l
  exact this.imp (fun h => by simpa using h)
theorem ms_two {a x : Int} (h : a ≠ x) : [a, x].mergeSort (fun x y => decide (x ≤ y)) = if a < x then [a, x] else [x, a] := by
  split
  · exact ms_eq _ _ (List.Perm.refl _) (by simp; omega)
  · exact ms_eq _ _ (List.Perm.swap _ _ _) (by simp; omega)
theorem ms_one (a : Int) : [a].mergeSort (fun x y => decide (x ≤ y)) = [a] := ms_eq _ _ (List.Perm.refl _) (by simp)
theorem ms_none : ([] : List Int).mergeSort (fun x y => decide (x ≤ y)) = [] := ms_eq _ _ (List.Perm.refl _) (by simp)
theorem put_none (x : Int) : Ev (fun k => spec_l1Put.f k [] x) [x] := by
  unfold spec_l1Put.f
  refine M.Ev_succ (M.Ev_some fun k => ?_)
  simp [spec_l1Put.l0]
theorem put_one {a x : Int} (h : a ≠ x) : Ev (fun k => spec_l1Put.f k [a] x) (if a < x then [a, x] else [x, a]) := by
  unfold spec_l1Put.f
  refine M.Ev_succ ?_
  have e : wrap64 ((0 : Int) + 1) = 1 := M.w64 (by omega) (by omega)
  have e1 : wrap64 (1 : Int) = 1 := M.w64 (by omega) (by omega)
  have hr : rd [a] 0 = a := rfl
  by_cases c : a < x
  · refine M.Ev_succ (M.Ev_some fun k => ?_)
    simp [spec_l1Put.l0, hr, c, e1]
  · refine M.Ev_some fun k => ?_
    simp [spec_l1Put.l0, hr, c, h]
/-- The houses on the same side at the plots before and behind. -/
def nextL (k p n : Int) : List Int :=
  ((if 0 ≤ M.plot k p n - 1 then [M.number k p (M.side k p n) (M.plot k p n - 1)] else []) ++ (if M.plot k p n + 1 ≤ p - 1 then [M.number k p (M.side k p n) (M.plot k p n + 1)] else [])).mergeSort (fun x y => decide (x ≤ y))
def nextR (k p n : Int) : List Int × Bool := if M.asked k p n = true then (nextL k p n, true) else ([], false)
theorem nextR_len (k p n : Int) : (nextR k p n).1.length ≤ 2 := by
  unfold nextR nextL
  split
  · rw [List.length_mergeSort, List.length_append]
    split <;> split <;> simp
  · simp
theorem NextHouses_ev (k p n : Int) : Ev (fun r => spec_NextHouses.f r k p n) (nextR k p n) ∧ Ev (fun r => impl_NextHouses.f r k p n) (nextR k p n) := by
  unfold spec_NextHouses.f impl_NextHouses.f nextR
  simp only [spec_nuAsked_eq, impl_isHouse_eq, Option.bind_some]
  by_cases h : M.asked k p n = true
  · have hb := M.asked_bd h
    have hst : M.streetB k p = true := (M.asked_iff.1 h).1
    simp only [h, if_true, spec_nuPlot_eq h, impl_plotOf_eq h, Option.bind_some]
    unfold nextL
    obtain ⟨q, hq⟩ : ∃ q, M.plot k p n = q := ⟨_, rfl⟩
    obtain ⟨s, hs⟩ : ∃ s, M.side k p n = s := ⟨_, rfl⟩
    rw [hq, hs] at hb ⊢
    have w1 : wrap64 (q - 1) = q - 1 := M.w64 (by omega) (by omega)
    have w2 : wrap64 (q + 1) = q + 1 := M.w64 (by omega) (by omega)
    have w3 : wrap64 (p - 1) = p - 1 := M.w64 (by omega) (by omega)
    have w4 : wrap64 ((0 : Int) + 1) = 1 := M.w64 (by omega) (by omega)
    have w5 : wrap64 ((1 : Int) + 1) = 2 := M.w64 (by omega) (by omega)
    have r0 : rd [q - 1, q + 1] 0 = q - 1 := rfl
    have r1 : rd [q - 1, q + 1] 1 = q + 1 := rfl
    rw [w1, w2]
    by_cases c1 : 0 ≤ q - 1
    · have n1s := spec_nuNumber_eq (s := s) (q := q - 1) hst (by omega) (by omega)
      have n1i := impl_numberAt_eq (s := s) (q := q - 1) hst (by omega) (by omega)
      by_cases c2 : q + 1 ≤ p - 1
      · have n2s := spec_nuNumber_eq (s := s) (q := q + 1) hst (by omega) (by omega)
        have n2i := impl_numberAt_eq (s := s) (q := q + 1) hst (by omega) (by omega)
        have hne : M.number k p s (q - 1) ≠ M.number k p s (q + 1) := by
          unfold M.number
          repeat' split
          all_goals omega
        rw [if_pos c1, if_pos c2, List.singleton_append, ms_two hne]
        refine ⟨?_, M.Ev_some fun r => ?_⟩
        · refine M.Ev_succ ?_
          simp only [spec_NextHouses.l0, List.length_cons, List.length_nil, show (0 : Int) < ((0 + 1 + 1 : Nat) : Int) by omega, if_true, show (0 : Int) ≤ 0 by omega, r0, w3, spec_l1In_eq, Option.bind_some, show (0 ≤ q - 1 ∧ q - 1 ≤ p - 1) = True by simp; omega, decide_true, n1s, w4]
          refine Ev.bind (put_none _) (M.Ev_succ ?_)
          simp only [spec_NextHouses.l0, List.length_cons, List.length_nil, show (1 : Int) < ((0 + 1 + 1 : Nat) : Int) by omega, if_true, show (0 : Int) ≤ 1 by omega, r1, w3, spec_l1In_eq, Option.bind_some, show (0 ≤ q + 1 ∧ q + 1 ≤ p - 1) = True by simp; omega, decide_true, n2s, w5]
          refine Ev.bind (put_one hne) (M.Ev_succ (M.Ev_some fun r => ?_))
          simp [spec_NextHouses.l0]
        · unfold impl_NextHouses.one
          simp only [w3, impl_within_eq, Option.bind_some, show (0 ≤ q - 1 ∧ q - 1 ≤ p - 1) = True by simp; omega, show (0 ≤ q + 1 ∧ q + 1 ≤ p - 1) = True by simp; omega, decide_true, if_true, n1i, n2i, List.length_nil, List.nil_append, show (0 : Nat) < 1000 by omega, List.length_singleton, show (1 : Nat) < 1000 by omega, List.singleton_append, ms_two hne]
      · rw [if_pos c1, if_neg c2, List.append_nil, ms_one]
        refine ⟨?_, M.Ev_some fun r => ?_⟩
        · refine M.Ev_succ ?_
          simp only [spec_NextHouses.l0, List.length_cons, List.length_nil, show (0 : Int) < ((0 + 1 + 1 : Nat) : Int) by omega, if_true, show (0 : Int) ≤ 0 by omega, r0, w3, spec_l1In_eq, Option.bind_some, show (0 ≤ q - 1 ∧ q - 1 ≤ p - 1) = True by simp; omega, decide_true, n1s, w4]
          refine Ev.bind (put_none _) (M.Ev_succ ?_)
          simp only [spec_NextHouses.l0, List.length_cons, List.length_nil, show (1 : Int) < ((0 + 1 + 1 : Nat) : Int) by omega, if_true, show (0 : Int) ≤ 1 by omega, r1, w3, spec_l1In_eq, Option.bind_some, show (0 ≤ q + 1 ∧ q + 1 ≤ p - 1) = False by simp; omega, decide_false, Bool.false_eq_true, if_false, w5]
          refine M.Ev_succ (M.Ev_some fun r => ?_)
          simp [spec_NextHouses.l0]
        · unfold impl_NextHouses.one
          simp only [w3, impl_within_eq, Option.bind_some, show (0 ≤ q - 1 ∧ q - 1 ≤ p - 1) = True by simp; omega, show (0 ≤ q + 1 ∧ q + 1 ≤ p - 1) = False by simp; omega, decide_true, decide_false, Bool.false_eq_true, if_false, if_true, n1i, List.length_nil, List.nil_append, show (0 : Nat) < 1000 by omega, ms_one]
    · by_cases c2 : q + 1 ≤ p - 1
      · have n2s := spec_nuNumber_eq (s := s) (q := q + 1) hst (by omega) (by omega)
        have n2i := impl_numberAt_eq (s := s) (q := q + 1) hst (by omega) (by omega)
        rw [if_neg c1, if_pos c2, List.nil_append, ms_one]
        refine ⟨?_, M.Ev_some fun r => ?_⟩
        · refine M.Ev_succ ?_
          simp only [spec_NextHouses.l0, List.length_cons, List.length_nil, show (0 : Int) < ((0 + 1 + 1 : Nat) : Int) by omega, if_true, show (0 : Int) ≤ 0 by omega, r0, w3, spec_l1In_eq, Option.bind_some, show (0 ≤ q - 1 ∧ q - 1 ≤ p - 1) = False by simp; omega, decide_false, Bool.false_eq_true, if_false, w4]
          refine M.Ev_succ ?_
          simp only [spec_NextHouses.l0, List.length_cons, List.length_nil, show (1 : Int) < ((0 + 1 + 1 : Nat) : Int) by omega, if_true, show (0 : Int) ≤ 1 by omega, r1, w3, spec_l1In_eq, Option.bind_some, show (0 ≤ q + 1 ∧ q + 1 ≤ p - 1) = True by simp; omega, decide_true, n2s, w5]
          refine Ev.bind (put_none _) (M.Ev_succ (M.Ev_some fun r => ?_))
          simp [spec_NextHouses.l0]
        · unfold impl_NextHouses.one
          simp only [w3, impl_within_eq, Option.bind_some, show (0 ≤ q - 1 ∧ q - 1 ≤ p - 1) = False by simp; omega, show (0 ≤ q + 1 ∧ q + 1 ≤ p - 1) = True by simp; omega, decide_true, decide_false, Bool.false_eq_true, if_false, if_true, n2i, List.length_nil, List.nil_append, show (0 : Nat) < 1000 by omega, ms_one]
      · rw [if_neg c1, if_neg c2, List.append_nil, ms_none]
        refine ⟨?_, M.Ev_some fun r => ?_⟩
        · refine M.Ev_succ ?_
          simp only [spec_NextHouses.l0, List.length_cons, List.length_nil, show (0 : Int) < ((0 + 1 + 1 : Nat) : Int) by omega, if_true, show (0 : Int) ≤ 0 by omega, r0, w3, spec_l1In_eq, Option.bind_some, show (0 ≤ q - 1 ∧ q - 1 ≤ p - 1) = False by simp; omega, decide_false, Bool.false_eq_true, if_false, w4]
          refine M.Ev_succ ?_
          simp only [spec_NextHouses.l0, List.length_cons, List.length_nil, show (1 : Int) < ((0 + 1 + 1 : Nat) : Int) by omega, if_true, show (0 : Int) ≤ 1 by omega, r1, w3, spec_l1In_eq, Option.bind_some, show (0 ≤ q + 1 ∧ q + 1 ≤ p - 1) = False by simp; omega, decide_false, Bool.false_eq_true, if_false, w5]
          refine M.Ev_succ (M.Ev_some fun r => ?_)
          simp [spec_NextHouses.l0]
        · unfold impl_NextHouses.one
          simp only [w3, impl_within_eq, Option.bind_some, show (0 ≤ q - 1 ∧ q - 1 ≤ p - 1) = False by simp; omega, show (0 ≤ q + 1 ∧ q + 1 ≤ p - 1) = False by simp; omega, decide_false, Bool.false_eq_true, if_false, ms_none]
  · simp only [h, Bool.false_eq_true, if_false]
    exact ⟨M.Ev_some fun r => rfl, M.Ev_some fun r => rfl⟩
theorem zSame_loop (l : List Int) (hl : l.length ≤ 1000000000000) : ∀ (d i : Nat), i ≤ l.length → l.length - i = d → Ev (fun k => laws_zSame.l0 k l l (l.length : Int) (i : Int)) true := by
  intro d
  induction d with
  | zero =>
    intro i hi hd
    refine M.Ev_succ (M.Ev_some fun r => ?_)
    simp only [laws_zSame.l0]
    rw [if_neg (by omega)]
  | succ d ih =>
    intro i hi hd
    have e : wrap64 ((i : Int) + 1) = ((i + 1 : Nat) : Int) := by rw [M.w64 (by omega) (by omega)]; omega
    refine M.Ev_succ ?_
    simp only [laws_zSame.l0, show (i : Int) < (l.length : Int) by omega, show (0 : Int) ≤ (i : Int) by omega, if_true, e]
    exact ih (i + 1) (by omega) (by omega)
theorem zSame_ev (l : List Int) (hl : l.length ≤ 1000000000000) : Ev (fun k => laws_zSame.f k l l) true := by
  unfold laws_zSame.f
  simp only [if_true]
  exact zSame_loop l hl l.length 0 (by omega) (by omega)
theorem zSum_loop (l : List Int) (hl : l.length ≤ 1000) (hb : ∀ x ∈ l, 0 ≤ x ∧ x ≤ 3000) : ∀ (d i : Nat), i ≤ l.length → l.length - i = d → Ev (fun r => laws_zSum.l0 r (M.sumL (l.take i)) l (l.length : Int) (i : Int)) (M.sumL l) := by
  intro d
  induction d with
  | zero =>
    intro i hi hd
    refine M.Ev_succ (M.Ev_some fun r => ?_)
    simp only [laws_zSum.l0]
    rw [if_neg (by omega), List.take_of_length_le (by omega)]
  | succ d ih =>
    intro i hi hd
    have hil : i < l.length := by omega
    have e : wrap64 ((i : Int) + 1) = ((i + 1 : Nat) : Int) := by rw [M.w64 (by omega) (by omega)]; omega
    have b1 := M.sumL_bd (l := l.take i) 3000 (by omega) (fun x hx => hb x (List.mem_of_mem_take hx))
    have b2 : ((l.take i).length : Int) ≤ 1000 := by simp; omega
    have b3 := hb l[i] (List.getElem_mem _)
    refine M.Ev_succ ?_
    simp only [laws_zSum.l0, show (i : Int) < (l.length : Int) by omega, show (0 : Int) ≤ (i : Int) by omega, if_true, M.rd_get hil, e]
    rw [M.w64 (by omega) (by omega), ← M.sumL_take_succ hil]
    exact ih (i + 1) (by omega) (by omega)
theorem zSum_ev (l : List Int) (hl : l.length ≤ 1000) (hb : ∀ x ∈ l, 0 ≤ x ∧ x ≤ 3000) : Ev (fun r => laws_zSum.f r l) (M.sumL l) := zSum_loop l hl hb l.length 0 (by omega) (by omega)
theorem zRises_ev (l : List Int) (h : l = [] ∨ (∃ a, l = [a]) ∨ ∃ a b, a < b ∧ l = [a, b]) : Ev (fun r => laws_zRises.f r l) true := by
  unfold laws_zRises.f
  rcases h with rfl | ⟨a, rfl⟩ | ⟨a, b, hab, rfl⟩
  · exact M.Ev_succ (M.Ev_some fun r => by simp [laws_zRises.l0])
  · exact M.Ev_succ (M.Ev_some fun r => by simp [laws_zRises.l0])
  · have e1 : wrap64 ((1 : Int) - 1) = 0 := by rw [M.w64 (by omega) (by omega)]; rfl
    have e2 : wrap64 ((1 : Int) + 1) = 2 := by rw [M.w64 (by omega) (by omega)]; rfl
    have r0 : rd [a, b] 0 = a := rfl
    have r1 : rd [a, b] 1 = b := rfl
    refine M.Ev_succ (M.Ev_succ (M.Ev_some fun r => ?_))
    simp only [laws_zRises.l0, e1, e2, r0, r1, List.length_cons, List.length_nil]
    rw [if_pos (by omega), if_pos (by omega), if_pos (by omega), if_pos (by omega), if_neg (by omega), if_neg (by omega)]
theorem nextL_ok {k p n : Int} (h : M.asked k p n = true) : (∀ m ∈ nextL k p n, M.asked k p m = true ∧ M.side k p m = M.side k p n ∧ (M.plot k p m = M.plot k p n - 1 ∨ M.plot k p m = M.plot k p n + 1)) ∧ (nextL k p n = [] ∧ p ≤ 1 ∨ (∃ a, nextL k p n = [a]) ∨ ∃ a b, a < b ∧ nextL k p n = [a, b]) := by
  have hb := M.asked_bd h
  have hst := (M.asked_iff.1 h).1
  have hs : M.side k p n = 0 ∨ M.side k p n = 1 ∧ 0 < k := by omega
  have lo : 0 ≤ M.plot k p n - 1 → _ := fun c => place_of_number hst hs (q := M.plot k p n - 1) ⟨c, by omega⟩
  have hi : M.plot k p n + 1 ≤ p - 1 → _ := fun c => place_of_number hst hs (q := M.plot k p n + 1) ⟨by omega, by omega⟩
  unfold nextL
  by_cases c1 : 0 ≤ M.plot k p n - 1
  · obtain ⟨a1, a2, a3⟩ := lo c1
    by_cases c2 : M.plot k p n + 1 ≤ p - 1
    · obtain ⟨b1, b2, b3⟩ := hi c2
      rw [if_pos c1, if_pos c2]
      generalize M.number k p (M.side k p n) (M.plot k p n - 1) = x at a1 a2 a3
      generalize M.number k p (M.side k p n) (M.plot k p n + 1) = y at b1 b2 b3
      have hxy : x ≠ y := by rintro rfl; omega
      rw [show [x] ++ [y] = [x, y] from rfl, ms_two hxy]
      constructor
      · intro m hm
        have : m = x ∨ m = y := by split at hm <;> simp at hm <;> omega
        rcases this with rfl | rfl
        · exact ⟨a1, a2, .inl a3⟩
        · exact ⟨b1, b2, .inr b3⟩
      · right; right
        split
        · exact ⟨x, y, by assumption, rfl⟩
        · exact ⟨y, x, by omega, rfl⟩
    · rw [if_pos c1, if_neg c2, List.append_nil, ms_one]
      refine ⟨fun m hm => ?_, .inr (.inl ⟨_, rfl⟩)⟩
      rw [List.mem_singleton.1 hm]
      exact ⟨a1, a2, .inl a3⟩
  · by_cases c2 : M.plot k p n + 1 ≤ p - 1
    · obtain ⟨b1, b2, b3⟩ := hi c2
      rw [if_neg c1, if_pos c2, List.nil_append, ms_one]
      refine ⟨fun m hm => ?_, .inr (.inl ⟨_, rfl⟩)⟩
      rw [List.mem_singleton.1 hm]
      exact ⟨b1, b2, .inr b3⟩
    · rw [if_neg c1, if_neg c2, List.nil_append, ms_none]
      exact ⟨fun m hm => by simp at hm, .inl ⟨rfl, by omega⟩⟩
theorem all_ev {α β : Type} {g : α → Nat → Option β} {r : α → β} : ∀ (L : List α), (∀ m ∈ L, Ev (g m) (r m)) → ∃ K, ∀ m ∈ L, ∀ k, K ≤ k → g m k = some (r m)
  | [], _ => ⟨0, fun m hm => by cases hm⟩
  | x :: L, h => by
    obtain ⟨K1, e1⟩ := h x List.mem_cons_self
    obtain ⟨K2, e2⟩ := all_ev L (fun m hm => h m (List.mem_cons_of_mem _ hm))
    refine ⟨K1 + K2, fun m hm k hk => ?_⟩
    rcases List.mem_cons.1 hm with rfl | hm
    · exact e1 k (by omega)
    · exact e2 m hm k (by omega)
theorem if_ev {β : Type} {c : Prop} {g : Nat → Option β} {r : β} (h : c → Ev g r) : ∃ K, c → ∀ k, K ≤ k → g k = some r := by
  by_cases hc : c
  · obtain ⟨K, e⟩ := h hc
    exact ⟨K, fun _ => e⟩
  · exact ⟨0, fun h => absurd h hc⟩
def hR (k p : Int) : Int := if M.streetB k p = true then M.houses k p else 0
theorem walk_to {k p n m : Int} (h : M.asked k p n = true) (hm : M.asked k p m = true) : walkR k p n m 7 = (if M.side k p n = M.side k p m then (((M.plot k p n - M.plot k p m).natAbs : Int), true) else (((M.plot k p n - M.plot k p m).natAbs : Int) + 7, true)) := by
  unfold walkR
  rw [if_pos ⟨h, hm, by omega, by omega⟩]
theorem walk_sym (k p a b w : Int) : walkR k p b a w = walkR k p a b w := by
  unfold walkR
  by_cases c : M.asked k p a = true ∧ M.asked k p b = true ∧ 0 ≤ w ∧ w ≤ 1000
  · rw [if_pos c, if_pos ⟨c.2.1, c.1, c.2.2⟩]
    have e : (M.plot k p b - M.plot k p a).natAbs = (M.plot k p a - M.plot k p b).natAbs := by omega
    rw [e]
    by_cases d : M.side k p a = M.side k p b
    · rw [if_pos d, if_pos d.symm]
    · rw [if_neg d, if_neg (fun z => d z.symm)]
  · rw [if_neg c, if_neg (fun z => c ⟨z.2.1, z.1, z.2.2⟩)]
/-- Of the house opposite: it is told back, its plot is the same, the walk is the width. -/
theorem opp_ok {k p n : Int} (c : M.asked k p n = true ∧ k ≠ 0) : oppR k p (oppR k p n).1 = (n, true) ∧ plotR k p (oppR k p n).1 = (1 - M.side k p n, M.plot k p n, true) ∧ walkR k p n (oppR k p n).1 7 = (7, true) := by
  have hb := M.asked_bd c.1
  have hst := (M.asked_iff.1 c.1).1
  have ho : oppR k p n = (M.number k p (1 - M.side k p n) (M.plot k p n), true) := by unfold oppR; rw [if_pos c]
  obtain ⟨x1, x2, x3⟩ := place_of_number hst (s := 1 - M.side k p n) (q := M.plot k p n) (by omega) (by omega)
  have hn := number_of c.1
  rw [ho]
  simp only
  generalize M.number k p (1 - M.side k p n) (M.plot k p n) = m at x1 x2 x3
  refine ⟨?_, ?_, ?_⟩
  · unfold oppR
    rw [if_pos ⟨x1, c.2⟩, x2, x3, show 1 - (1 - M.side k p n) = M.side k p n by omega, hn]
  · unfold plotR
    rw [if_pos x1, x2, x3]
  · rw [walk_to c.1 x1, x2, x3, if_neg (by omega), show M.plot k p n - M.plot k p n = 0 by omega]
    rfl
/-- Of a house next to it. -/
theorem next_ok2 {k p n m : Int} (h : M.asked k p n = true) (x1 : M.asked k p m = true) (x2 : M.side k p m = M.side k p n) (x3 : M.plot k p m = M.plot k p n - 1 ∨ M.plot k p m = M.plot k p n + 1) : walkR k p n m 7 = (1, true) ∧ plotR k p m = (M.side k p n, M.plot k p m, true) := by
  constructor
  · rw [walk_to h x1, x2, if_pos rfl]
    rcases x3 with x3 | x3
    · rw [x3, show M.plot k p n - (M.plot k p n - 1) = 1 by omega]; rfl
    · rw [x3, show M.plot k p n - (M.plot k p n + 1) = -1 by omega]; rfl
  · unfold plotR
    rw [if_pos x1, x2]
open GFnHousesNumbered (Facts)
theorem facts {l0 l1 : List Int} (h0 : InB l0) (h1 : InB l1) : ∃ kk k p n sd pl ok fac one nxt hs five txt lf rt sx sy k1 p1 wh at1 n1 b1 k2 p2 fr to1 wd wk b2 k3 p3 sf nu b3 su tw k4 p4 b4,
    Facts kk l0 l1 k p n sd pl ok fac one nxt hs five txt lf rt sx sy k1 p1 wh at1 n1 b1 k2 p2 fr to1 wd wk b2 k3 p3 sf nu b3 su tw k4 p4 b4 := by
  obtain ⟨k, p, n, K1, e1⟩ := DrawPlotOf_ok h0
  obtain ⟨K2, e2⟩ := impl_OppositeOf_ev k p n
  obtain ⟨K3, e3⟩ := spec_OppositeOf_ev k p n
  obtain ⟨⟨K4, e4⟩, ⟨K5, e5⟩⟩ := NextHouses_ev k p n
  obtain ⟨⟨K6, e6⟩, s6⟩ := StreetText_both k p
  obtain ⟨k1, p1, s1, q1, e7⟩ := DrawNumberAt_ok h1
  obtain ⟨k2, p2, a2, b2, w2, K8, e8⟩ := DrawWalkBetween_ok h1
  obtain ⟨K9, e9⟩ := impl_WalkBetween_ev k2 p2 a2 b2 w2
  obtain ⟨K10, e10⟩ := spec_WalkBetween_ev k2 p2 a2 b2 w2
  obtain ⟨K11, e11⟩ := impl_WalkBetween_ev k2 p2 b2 a2 w2
  rw [walk_sym] at e11
  obtain ⟨k3, p3, s3, e12⟩ := DrawSideNumbers_ok h1
  obtain ⟨⟨K13, e13⟩, ⟨K14, e14⟩⟩ := SideNumbers_ev k3 p3 s3
  obtain ⟨⟨K15, e15⟩, ⟨K16, e16⟩⟩ := SideSum_ev k3 p3 s3
  obtain ⟨t, ⟨K17, e17⟩, ht⟩ := DrawParseStreet_ok h1
  obtain ⟨r, e18, ⟨K19, e19⟩, hr⟩ := ParseStreet_both t (by omega)
  obtain ⟨K20, e20⟩ := impl_OppositeOf_ev k p (oppR k p n).1
  obtain ⟨K21, e21⟩ := impl_WalkBetween_ev k p n (oppR k p n).1 7
  obtain ⟨K22, e22⟩ := all_ev (nextR k p n).1 (fun m _ => impl_WalkBetween_ev k p n m 7)
  obtain ⟨-, ⟨K23, e23⟩⟩ := SideNumbers_ev k p 0
  obtain ⟨-, ⟨K24, e24⟩⟩ := SideNumbers_ev k p 1
  obtain ⟨-, ⟨K25, e25⟩⟩ := SideSum_ev k p 0
  obtain ⟨-, ⟨K26, e26⟩⟩ := SideSum_ev k p 1
  obtain ⟨K27, e27⟩ := if_ev (c := M.streetB k p = true) (fun c => zSum_ev (M.numsR k p 0) (M.numsR_len c) (M.numsR_bd c ⟨by omega, by omega⟩))
  obtain ⟨K28, e28⟩ := if_ev (c := M.streetB k p = true) (fun c => zSum_ev (M.numsR k p 1) (M.numsR_len c) (M.numsR_bd c ⟨by omega, by omega⟩))
  obtain ⟨K29, e29⟩ := if_ev (c := M.asked k p n = true) (fun c => zRises_ev (nextR k p n).1 (by
    have hx : nextR k p n = (nextL k p n, true) := by unfold nextR; rw [if_pos c]
    rw [hx]
    exact (nextL_ok c).2.imp (fun f => f.1) id))
  obtain ⟨K30, e30⟩ := zSame_ev (nextR k p n).1 (by have := nextR_len k p n; omega)
  obtain ⟨K31, e31⟩ := zSame_ev (sideNumsR k3 p3 s3).1 (by have := sideNumsR_len k3 p3 s3; omega)
  have f1 : (nextR k p n).2 = M.asked k p n := by unfold nextR; cases M.asked k p n <;> rfl
  have f2 : (plotR k p n).2.2 = M.asked k p n := by unfold plotR; cases M.asked k p n <;> rfl
  have f3 : (streetR k p).2 = M.streetB k p := by unfold streetR; cases M.streetB k p <;> rfl
  have f4 : (oppR k p n).2 = decide (M.asked k p n = true ∧ k ≠ 0) := by
    unfold oppR
    by_cases c : M.asked k p n = true ∧ k ≠ 0
    · rw [if_pos c, decide_eq_true c]
    · rw [if_neg c, decide_eq_false c]
  have f5 : (sideSumR k3 p3 s3).2 = (sideNumsR k3 p3 s3).2 := by unfold sideSumR sideNumsR; split <;> rfl
  have hh1 : impl_HousesOf.f k p = some (hR k p, M.streetB k p) := by
    unfold impl_HousesOf.f hR
    simp only [impl_IsStreet_eq, Option.bind_some]
    by_cases h : M.streetB k p = true
    · rw [if_pos h, if_pos h, impl_housesOf_eq h, h]; rfl
    · rw [if_neg h, if_neg h, Bool.eq_false_iff.2 h]
  have hh2 : spec_HousesOf.f k p = some (hR k p, M.streetB k p) := by
    unfold spec_HousesOf.f hR
    simp only [spec_nuGood_eq, Option.bind_some]
    by_cases h : M.streetB k p = true
    · rw [if_pos h, if_pos h, spec_nuHouses_eq h, h]; rfl
    · rw [if_neg h, if_neg h, Bool.eq_false_iff.2 h]
  have ask : (oppR k p n).2 = true → M.asked k p n = true ∧ k ≠ 0 := by rw [f4]; exact of_decide_eq_true
  have pl : M.asked k p n = true → plotR k p n = (M.side k p n, M.plot k p n, true) := fun h => by unfold plotR; rw [if_pos h]
  have nx : M.asked k p n = true → nextR k p n = (nextL k p n, true) := fun h => by unfold nextR; rw [if_pos h]
  obtain ⟨kk, g1, g2, g3, g4, g5, g6, g8, g9, g10, g11, g13, g14, g15, g16, g17, g19, g20, g21, g22, g23, g24, g25, g26, g27, g28, g29, g30, g31⟩ : ∃ kk, K1 ≤ kk ∧ K2 ≤ kk ∧ K3 ≤ kk ∧ K4 ≤ kk ∧ K5 ≤ kk ∧ K6 ≤ kk ∧ K8 ≤ kk ∧ K9 ≤ kk ∧ K10 ≤ kk ∧ K11 ≤ kk ∧ K13 ≤ kk ∧ K14 ≤ kk ∧ K15 ≤ kk ∧ K16 ≤ kk ∧ K17 ≤ kk ∧ K19 ≤ kk ∧ K20 ≤ kk ∧ K21 ≤ kk ∧ K22 ≤ kk ∧ K23 ≤ kk ∧ K24 ≤ kk ∧ K25 ≤ kk ∧ K26 ≤ kk ∧ K27 ≤ kk ∧ K28 ≤ kk ∧ K29 ≤ kk ∧ K30 ≤ kk ∧ K31 ≤ kk :=
    ⟨K1 + K2 + K3 + K4 + K5 + K6 + K8 + K9 + K10 + K11 + K13 + K14 + K15 + K16 + K17 + K19 + K20 + K21 + K22 + K23 + K24 + K25 + K26 + K27 + K28 + K29 + K30 + K31, by omega, by omega, by omega, by omega, by omega, by omega, by omega, by omega, by omega, by omega, by omega, by omega, by omega, by omega, by omega, by omega, by omega, by omega, by omega, by omega, by omega, by omega, by omega, by omega, by omega, by omega, by omega, by omega⟩
  refine ⟨kk, k, p, n, (plotR k p n).1, (plotR k p n).2.1, M.asked k p n, (oppR k p n).1, (oppR k p n).2, (nextR k p n).1, hR k p, M.streetB k p, (streetR k p).1, M.numsR k p 0, M.numsR k p 1, M.sumL (M.numsR k p 0), M.sumL (M.numsR k p 1),
    k1, p1, s1, q1, (if isAt k1 p1 s1 q1 then (M.number k1 p1 s1 q1, true) else (0, false)).1, (if isAt k1 p1 s1 q1 then (M.number k1 p1 s1 q1, true) else (0, false)).2, k2, p2, a2, b2, w2, (walkR k2 p2 a2 b2 w2).1, (walkR k2 p2 a2 b2 w2).2, k3, p3, s3, (sideNumsR k3 p3 s3).1, (sideNumsR k3 p3 s3).2, (sideSumR k3 p3 s3).1, t, r.1, r.2.1, r.2.2, ?_⟩
  exact {
    f3_1 := e1 kk g1
    f4_2 := by rw [impl_PlotOf_eq, ← f2]
    f5_2 := by rw [spec_PlotOf_eq, ← f2]
    f6_2 := e2 kk g2
    f7_2 := e3 kk g3
    f8_2 := by rw [← f1]; exact e5 kk g5
    f9_2 := by rw [← f1]; exact e4 kk g4
    f10_1 := hh1
    f11_1 := hh2
    f12_1 := by rw [← f3]; exact s6
    f13_1 := by rw [← f3]; exact e6 kk g6
    f42_1 := e7
    f43_3 := impl_NumberAt_eq k1 p1 s1 q1
    f44_3 := spec_NumberAt_eq k1 p1 s1 q1
    f45_1 := e8 kk g8
    f46_4 := e9 kk g9
    f47_4 := e10 kk g10
    f48_1 := e12
    f49_2 := e14 kk g14
    f50_2 := e13 kk g13
    f51_2 := by rw [← f5]; exact e16 kk g16
    f52_2 := by rw [← f5]; exact e15 kk g15
    f53_1 := e17 kk g17
    f54_1 := e18
    f55_1 := e19 kk g19
    f67_1 := fun h => by
      obtain ⟨a1, a2⟩ := hr h
      rw [(StreetText_both r.1 r.2.1).2]
      unfold streetR
      rw [if_pos a1, a2]
    f63_4 := fun h => (e11 kk g11).trans (by rw [← h])
    f59_2 := fun h => by
      by_cases c : isAt k1 p1 s1 q1
      · obtain ⟨x1, x2, x3⟩ := place_of_number c.1 c.2.1 c.2.2
        rw [if_pos c, impl_PlotOf_eq]
        unfold plotR
        rw [if_pos x1, x2, x3]
      · rw [if_neg c] at h
        cases h
    f56_26 := e31 kk g31
    f35_1 := fun h => (e23 kk g23).trans (by unfold sideNumsR; rw [if_pos ⟨h, by omega, by omega⟩])
    f36_1 := fun h => (e24 kk g24).trans (by unfold sideNumsR; rw [if_pos ⟨h, by omega, by omega⟩])
    f37_1 := fun h => (e25 kk g25).trans (by unfold sideSumR; rw [if_pos ⟨h, by omega, by omega⟩])
    f38_1 := fun h => (e26 kk g26).trans (by unfold sideSumR; rw [if_pos ⟨h, by omega, by omega⟩])
    f39_1 := fun h => by
      have : (streetR k p).1 = streetT k p := by unfold streetR; rw [if_pos h]
      rw [this]
      exact ParseStreet_text h
    f40_16 := fun h => e27 h kk g27
    f40_22 := fun h => e28 h kk g28
    f29_2 := fun h => (e20 kk g20).trans (by rw [(opp_ok (ask h)).1])
    f30_2 := fun h => by
      have hb := M.asked_bd (ask h).1
      rw [impl_PlotOf_eq, (opp_ok (ask h)).2.1, pl (ask h).1, M.w64 (x := 1 - M.side k p n) (by omega) (by omega)]
    f31_3 := fun h => (e21 kk g21).trans (by rw [(opp_ok (ask h)).2.2])
    f17_3 := fun h => by
      have hb := M.asked_bd h
      have hat : isAt k p (M.side k p n) (M.plot k p n) := ⟨(M.asked_iff.1 h).1, by omega, by omega, by omega⟩
      rw [pl h, impl_NumberAt_eq, if_pos hat, number_of h]
    f18_9 := fun h => e29 h kk g29
    f14_31 := e30 kk g30
    f14_62 := impl_IsStreet_eq k p
    f14_67 := impl_IsStreet_eq k p
    f14_69 := by unfold spec_IsStreet.f; rw [spec_nuGood_eq]; rfl
    hok := by
      unfold M.asked hR
      cases hs : M.streetB k p with
      | false => simp
      | true => simp
    hone := by
      rw [f4]
      cases ha : M.asked k p n with
      | false => simp
      | true =>
        have hst := M.streetB_iff.1 (M.asked_iff.1 ha).1
        rw [Bool.true_and]
        exact decide_eq_decide.2 ⟨fun z => by have := z.2; omega, fun z => ⟨rfl, by omega⟩⟩
    hlen := fun h z => by
      rw [nx h] at z
      rcases (nextL_ok h).2 with f | ⟨a, f⟩ | ⟨a, b, _, f⟩
      · omega
      · rw [f] at z; simp at z
      · rw [f] at z; simp at z
    hlen2 := fun h => by have := nextR_len k p n; omega
    hstep := fun h m hm => by
      have hm' := hm
      rw [nx h] at hm
      have hb := M.asked_bd h
      obtain ⟨x1, x2, x3⟩ := (nextL_ok h).1 m hm
      obtain ⟨y1, y2⟩ := next_ok2 h x1 x2 x3
      refine ⟨M.plot k p m, ?_, ?_, ?_⟩
      · rw [impl_PlotOf_eq, y2, pl h]
      · exact (e22 m hm' kk g22).trans (by rw [y1])
      · rw [pl h, M.w64 (x := M.plot k p n - 1) (by omega) (by omega), M.w64 (x := M.plot k p n + 1) (by omega) (by omega)]
        exact x3
    hsum := fun h => by
      obtain ⟨q1, q2⟩ := sums_all h
      have h' := M.streetB_iff.1 h
      have b0 := M.sumL_bd (l := M.numsR k p 0) 3000 (by omega) (M.numsR_bd h ⟨by omega, by omega⟩)
      have b1 := M.sumL_bd (l := M.numsR k p 1) 3000 (by omega) (M.numsR_bd h ⟨by omega, by omega⟩)
      have g0 := M.numsR_len (s := 0) h
      have g1 := M.numsR_len (s := 1) h
      have hh : 0 ≤ M.houses k p ∧ M.houses k p ≤ 2000 := by unfold M.houses; split <;> omega
      have hH : hR k p = M.houses k p := by unfold hR; rw [if_pos h]
      rw [hH]
      generalize M.sumL (M.numsR k p 0) = A at *
      generalize M.sumL (M.numsR k p 1) = B at *
      have hp0 : 0 ≤ M.houses k p * (M.houses k p + 1) := Int.mul_nonneg (by omega) (by omega)
      have hp1 : M.houses k p * (M.houses k p + 1) ≤ 2000 * 2001 := Int.mul_le_mul (by omega) (by omega) (by omega) (by omega)
      have hp : wrap64 (M.houses k p * wrap64 (M.houses k p + 1)) = 2 * (A + B) := by rw [M.w64 (x := M.houses k p + 1) (by omega) (by omega), M.w64 (by omega) (by omega)]; omega
      have hd : Int.tdiv (2 * (A + B)) 2 = A + B := by rw [Int.tdiv_eq_ediv_of_nonneg (by omega)]; omega
      rw [hp, hd]
    hcnt := fun h => by
      obtain ⟨q1, q2⟩ := sums_all h
      have hh : 0 ≤ M.houses k p ∧ M.houses k p ≤ 2000 := by have h' := M.streetB_iff.1 h; unfold M.houses; split <;> omega
      have hH : hR k p = M.houses k p := by unfold hR; rw [if_pos h]
      rw [hH, M.w64 (by omega) (by omega)]
      exact q2
    hsym := fun h e => by
      rw [← e]
      unfold walkR
      split <;> simp }
theorem FnHousesNumbered {A0 A1 : Option Addr} {c0 c1 : Nat} {l0 l1 : List Int} (w : World) (hV : VarsOK w) (hr0 : Kd.C (Kd.int .u8) w A0 l0.length l0) (hc0 : l0.length ≤ c0) (hr1 : Kd.C (Kd.int .u8) w A1 l1.length l1) (hc1 : l1.length ≤ c1) (h0 : InB l0) (h1 : InB l1) :
    Calls Tryz.prog 3 #[.slice A0 l0.length c0, .slice A1 l1.length c1] w fun e w' => e = .returned (.bool true) ∧ Below w.heap.size w w' := by
  have hb : ∃ b, laws_big.f l0 l1 = some b := by
    unfold laws_big.f
    split
    · exact ⟨_, rfl⟩
    · exact ⟨_, rfl⟩
  obtain ⟨b, hb⟩ := hb
  cases b with
  | true => exact GFnHousesNumbered.calls_big hb w hV hr0 hc0 hr1 hc1
  | false =>
    obtain ⟨kk, k, p, n, sd, pl, ok, fac, one, nxt, hs, five, txt, lf, rt, sx, sy, k1, p1, wh, at1, n1, b1, k2, p2, fr, to1, wd, wk, b2, k3, p3, sf, nu, b3, su, tw, k4, p4, b4, H⟩ := facts h0 h1
    exact GFnHousesNumbered.calls_small H hb w hV hr0 hc0 hr1 hc1

end Go.Proofs.YtihmjhchiomgbaaGreatDoor.Pure
