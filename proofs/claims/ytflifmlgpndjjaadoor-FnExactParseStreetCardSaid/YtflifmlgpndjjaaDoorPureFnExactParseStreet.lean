/- The program's ParseStreet and the reference's answer the same for all texts: no further condition. -/
import Derived.Test.YtflifmlgpndjjaaDoorM
import Derived.Test.YtflifmlgpndjjaaDoorPFnExactParseStreetx4
namespace Go.Proofs.YtflifmlgpndjjaaDoor.Pure
open Go.RowKit Go.Proofs.YtflifmlgpndjjaaDoor.PFnExactParseStreet Go.Proofs.YtflifmlgpndjjaaDoorW.PrintWords Go.Proofs.YtflifmlgpndjjaaDoorW.PrintLast Go.Proofs.YtflifmlgpndjjaaDoorW.PrintMore
set_option linter.unusedVariables false
set_option linter.unusedSimpArgs false
theorem spec_l1In_eq (a b c : Int) : spec_l1In.f a b c = some (decide (b ≤ a ∧ a ≤ c)) := by
  unfold spec_l1In.f
  by_cases h : a ≥ b
  · rw [if_pos h]; simp [show b ≤ a from h]
  · rw [if_neg h]; simp [show ¬ b ≤ a from h]
theorem impl_within_eq (a b c : Int) : impl_within.f a b c = some (decide (b ≤ a ∧ a ≤ c)) := by
  unfold impl_within.f
  by_cases h : a ≥ b
  · rw [if_pos h]; simp [show b ≤ a from h]
  · rw [if_neg h]; simp [show ¬ b ≤ a from h]
theorem spec_nuGood_eq (k p : Int) : spec_nuGood.f k p = some (M.streetB k p) := by
  unfold spec_nuGood.f M.streetB
  simp only [spec_l1In_eq, Option.bind_some]
  by_cases h : 0 ≤ k ∧ k ≤ 2 <;> simp [h]
theorem impl_IsStreet_eq (k p : Int) : impl_IsStreet.f k p = some (M.streetB k p) := by
  unfold impl_IsStreet.f M.streetB
  simp only [impl_within_eq, Option.bind_some]
  by_cases h : 0 ≤ k ∧ k ≤ 2 <;> simp [h]
theorem decDigits_eq : ∀ (n : Nat), Lib.decDigits n = (M.digs n).map (fun z => UInt8.ofNat z.toNat) := by
  intro n
  induction n using Nat.strongRecOn with
  | ind n ih =>
    by_cases h : n < 10
    · rw [Lib.decDigits, dif_pos h, M.digs_small h]
      simp only [List.map_cons, List.map_nil]
      rw [show (48 + (n : Int)).toNat = 48 + n by omega]
    · rw [Lib.decDigits, dif_neg h, M.digs_big h, ih (n / 10) (by omega)]
      simp only [List.map_append, List.map_cons, List.map_nil]
      rw [show (48 + ((n % 10 : Nat) : Int)).toNat = 48 + n % 10 by omega]
theorem digs_range : ∀ (n : Nat), ∀ z ∈ M.digs n, 48 ≤ z ∧ z ≤ 57 := by
  intro n
  induction n using Nat.strongRecOn with
  | ind n ih =>
    intro z hz
    by_cases h : n < 10
    · rw [M.digs_small h] at hz
      simp at hz
      omega
    · rw [M.digs_big h] at hz
      simp only [List.mem_append, List.mem_singleton] at hz
      rcases hz with hz | hz
      · exact ih (n / 10) (by omega) z hz
      · omega
theorem digs_pos : ∀ (n : Nat), 1 ≤ (M.digs n).length := by
  intro n
  by_cases h : n < 10
  · rw [M.digs_small h]; simp
  · rw [M.digs_big h]; simp
theorem digs_tight : ∀ (j n : Nat), n < 10 ^ (j + 1) → (M.digs n).length ≤ j + 1 := by
  intro j
  induction j with
  | zero => intro n h; rw [M.digs_small (by simpa using h)]; simp
  | succ j ih =>
    intro n h
    by_cases c : n < 10
    · rw [M.digs_small c]; simp
    · rw [M.digs_big c, List.length_append]
      have := ih (n / 10) (by rw [Nat.pow_succ] at h; exact Nat.div_lt_of_lt_mul (by rw [Nat.mul_comm]; exact h))
      simp
      omega
theorem digs_head : ∀ (n : Nat), 1 ≤ n → (M.digs n).getD 0 0 ≠ 48 := by
  intro n
  induction n using Nat.strongRecOn with
  | ind n ih =>
    intro h1
    by_cases h : n < 10
    · rw [M.digs_small h]
      simp
      omega
    · rw [M.digs_big h]
      have hp := digs_pos (n / 10)
      have h2 := ih (n / 10) (by omega) (by omega)
      rw [List.getD_eq_getElem?_getD, List.getElem?_append_left (by omega), ← List.getD_eq_getElem?_getD]
      exact h2
theorem bt_nums (xs : List Int) (hx : ∀ z ∈ xs, 0 ≤ z ∧ z ≤ 255) (i : Nat) (hi : i < xs.length) : bt (strOfNums xs) (i : Int) = xs.getD i 0 := by
  have hs : i < (strOfNums xs).size := by rw [strOfNums_size]; exact hi
  have hz := hx _ (List.getElem_mem hi)
  unfold bt
  rw [Int.toNat_natCast, dif_pos hs]
  have e : (strOfNums xs)[i] = UInt8.ofNat (xs[i]).toNat := by
    show (strOfNums xs).data[i]'hs = _
    rw [← Array.getElem_toList]
    simp only [strOfNums_data, List.getElem_map]
  rw [e, List.getD_eq_getElem?_getD, List.getElem?_eq_getElem hi]
  simp only [Option.getD_some]
  have : (UInt8.ofNat (xs[i]).toNat).toNat = (xs[i]).toNat := by simp; omega
  rw [this]
  omega
def dstep (a d : Int) : Int := 10 * a + (d - 48)
theorem dstep_def (a d : Int) : dstep a d = 10 * a + (d - 48) := rfl
theorem digs_val : ∀ (n : Nat), (M.digs n).foldl dstep 0 = (n : Int) := by
  intro n
  induction n using Nat.strongRecOn with
  | ind n ih =>
    by_cases h : n < 10
    · rw [M.digs_small h]; simp [dstep]; omega
    · rw [M.digs_big h, List.foldl_append, ih (n / 10) (by omega)]
      simp only [List.foldl_cons, List.foldl_nil, dstep]
      omega
theorem l1Read_loop (xs : List Int) (hx : ∀ z ∈ xs, 48 ≤ z ∧ z ≤ 57) (h6 : xs.length ≤ 6) : ∀ (d i : Nat) (v : Int), i ≤ xs.length → xs.length - i = d → 0 ≤ v → v + 1 ≤ (10 ^ i : Nat) → Ev (fun k => spec_l1Read.l0 k (strOfNums xs) v (i : Int)) ((xs.drop i).foldl dstep v) := by
  intro d
  induction d with
  | zero =>
    intro i v hi hd h0 h1
    obtain rfl : i = xs.length := by omega
    refine M.Ev_succ (M.Ev_some fun k => ?_)
    simp only [spec_l1Read.l0]
    rw [if_neg (by rw [strOfNums_size]; omega), List.drop_length]
    rfl
  | succ d ih =>
    intro i v hi hd h0 h1
    have hlt : i < xs.length := by omega
    have hz := hx _ (List.getElem_mem hlt)
    have e : wrap64 ((i : Int) + 1) = ((i + 1 : Nat) : Int) := by rw [M.w64 (by omega) (by omega)]; omega
    have hp : (10 ^ i : Nat) ≤ 10 ^ 6 := Nat.pow_le_pow_right (by omega) (by omega)
    have hp1 : (10 ^ (i + 1) : Nat) = 10 * 10 ^ i := by rw [Nat.pow_succ, Nat.mul_comm]
    have hb : bt (strOfNums xs) (i : Int) = xs[i] := by
      rw [bt_nums xs (fun z h => by have := hx z h; omega) i hlt, List.getD_eq_getElem?_getD, List.getElem?_eq_getElem hlt]
      rfl
    have ev : wrap64 (wrap64 (10 * v) + (xs[i] - 48) % 256) = dstep v xs[i] := by
      unfold dstep
      rw [M.w64 (x := 10 * v) (by omega) (by omega), M.w64 (by omega) (by omega)]
      omega
    have hi2 := ih (i + 1) (dstep v xs[i]) (by omega) (by omega) (by unfold dstep; omega) (by unfold dstep; rw [hp1]; omega)
    refine M.Ev_succ ?_
    simp only [spec_l1Read.l0, strOfNums_size, show (i : Int) < (xs.length : Int) by omega, show (0 : Int) ≤ (i : Int) by omega, if_true, hb, show ¬ (xs[i] < 48) by omega, show ¬ (xs[i] > 57) by omega, if_false, ev, e]
    rw [List.drop_eq_getElem_cons hlt]
    exact hi2
theorem l1Read_total (s : ByteArray) (hs : s.size ≤ 6) : ∀ (d i : Nat) (v : Int), i ≤ s.size → s.size - i = d → ∃ r, Ev (fun k => spec_l1Read.l0 k s v (i : Int)) r := by
  intro d
  induction d with
  | zero =>
    intro i v hi hd
    refine ⟨v, M.Ev_succ (M.Ev_some fun k => ?_)⟩
    simp only [spec_l1Read.l0]
    rw [if_neg (by omega)]
  | succ d ih =>
    intro i v hi hd
    have e : wrap64 ((i : Int) + 1) = ((i + 1 : Nat) : Int) := by rw [M.w64 (by omega) (by omega)]; omega
    by_cases c1 : bt s (i : Int) < 48
    · refine ⟨-1, M.Ev_succ (M.Ev_some fun k => ?_)⟩
      simp only [spec_l1Read.l0, show (i : Int) < (s.size : Int) by omega, show (0 : Int) ≤ (i : Int) by omega, if_true, c1]
    · by_cases c2 : bt s (i : Int) > 57
      · refine ⟨-1, M.Ev_succ (M.Ev_some fun k => ?_)⟩
        simp only [spec_l1Read.l0, show (i : Int) < (s.size : Int) by omega, show (0 : Int) ≤ (i : Int) by omega, if_true, c1, c2, if_false]
      · obtain ⟨r, hr⟩ := ih (i + 1) (wrap64 (wrap64 (10 * v) + (bt s (i : Int) - 48) % 256)) (by omega) (by omega)
        refine ⟨r, M.Ev_succ ?_⟩
        simp only [spec_l1Read.l0, show (i : Int) < (s.size : Int) by omega, show (0 : Int) ≤ (i : Int) by omega, if_true, c1, c2, if_false, e]
        exact hr
theorem l1Read_any (s : ByteArray) (hs : s.size ≤ 1000000000000) : ∃ r, Ev (fun k => spec_l1Read.f k s) r := by
  unfold spec_l1Read.f
  simp only [spec_l1In_eq, Option.bind_some]
  by_cases c : (1 : Int) ≤ (s.size : Int) ∧ (s.size : Int) ≤ 6
  · obtain ⟨r, hr⟩ := l1Read_total s (by omega) s.size 0 0 (by omega) (by omega)
    simp only [decide_eq_true c, if_true, show (0 : Int) < (s.size : Int) by omega]
    by_cases c2 : bt s 0 = 48
    · by_cases c3 : (s.size : Int) > 1
      · simp only [c2, if_true, decide_eq_true c3]
        exact ⟨-1, M.Ev_succ (M.Ev_some fun k => by simp [spec_l1Read.j0])⟩
      · simp only [c2, if_true, decide_eq_false c3]
        exact ⟨r, M.Ev_succ (by simp only [spec_l1Read.j0, Bool.false_eq_true, if_false]; exact hr)⟩
    · simp only [c2, if_false]
      exact ⟨r, M.Ev_succ (by simp only [spec_l1Read.j0, Bool.false_eq_true, if_false]; exact hr)⟩
  · simp only [decide_eq_false c, Bool.false_eq_true, if_false]
    exact ⟨-1, M.Ev_succ (M.Ev_some fun k => by simp [spec_l1Read.j0])⟩
theorem l1Read_digs (n : Nat) (h1 : 1 ≤ n) (h : n ≤ 99999) : Ev (fun k => spec_l1Read.f k (strOfNums (M.digs n))) (n : Int) := by
  have hl := digs_tight 4 n (by omega)
  have hp := digs_pos n
  have hr := l1Read_loop (M.digs n) (digs_range n) (by omega) (M.digs n).length 0 0 (by omega) (by omega) (by omega) (by simp)
  rw [List.drop_zero, digs_val] at hr
  have hb : bt (strOfNums (M.digs n)) 0 = (M.digs n).getD 0 0 := bt_nums (M.digs n) (fun z h => by have := digs_range n z h; omega) 0 (by omega)
  have hh := digs_head n h1
  unfold spec_l1Read.f
  simp only [spec_l1In_eq, Option.bind_some, strOfNums_size, decide_eq_true (show (1 : Int) ≤ ((M.digs n).length : Int) ∧ ((M.digs n).length : Int) ≤ 6 by omega), if_true, show (0 : Int) < ((M.digs n).length : Int) by omega, hb, hh, if_false]
  exact M.Ev_succ (by simp only [spec_l1Read.j0, Bool.false_eq_true, if_false]; exact hr)
theorem parse_snoc : ∀ (L : List UInt8) (acc u : Nat) (c : UInt8), Lib.parseUint10 acc L = .ok u → 48 ≤ c.toNat → c.toNat ≤ 57 → u ≤ 100000000000000000 → Lib.parseUint10 acc (L ++ [c]) = .ok (u * 10 + (c.toNat - 48))
  | [], acc, u, c, h, h1, h2, h3 => by
    simp only [Lib.parseUint10] at h
    injection h with h
    subst h
    simp only [List.nil_append, Lib.parseUint10]
    rw [if_pos ⟨h1, h2⟩, if_neg (by omega), if_neg (by omega)]
  | x :: L, acc, u, c, h, h1, h2, h3 => by
    simp only [Lib.parseUint10, List.cons_append] at h ⊢
    split at h
    · rename_i q1
      rw [if_pos q1]
      split at h
      · cases h
      · rename_i q2
        rw [if_neg q2]
        split at h
        · cases h
        · rename_i q3
          rw [if_neg q3]
          exact parse_snoc L _ u c h h1 h2 h3
    · cases h
theorem u8_toNat (n : Nat) (h : n < 256) : (UInt8.ofNat n).toNat = n := by simp; omega
theorem parse_dec : ∀ (n : Nat), n ≤ 1000000000000000 → Lib.parseUint10 0 (Lib.decDigits n) = .ok n := by
  intro n
  induction n using Nat.strongRecOn with
  | ind n ih =>
    intro hn
    by_cases h : n < 10
    · rw [Lib.decDigits, dif_pos h]
      simp only [Lib.parseUint10]
      rw [u8_toNat _ (by omega), if_pos ⟨by omega, by omega⟩, if_neg (by omega), if_neg (by omega)]
      congr 1
      omega
    · rw [Lib.decDigits, dif_neg h, parse_snoc _ 0 (n / 10) _ (ih (n / 10) (by omega) (by omega)) (by rw [u8_toNat _ (by omega)]; omega) (by rw [u8_toNat _ (by omega)]; omega) (by omega), u8_toNat _ (by omega)]
      congr 1
      omega
theorem dec_range (n : Nat) : ∀ c ∈ Lib.decDigits n, 48 ≤ c.toNat ∧ c.toNat ≤ 57 := by
  intro c hc
  rw [decDigits_eq] at hc
  obtain ⟨z, hz, rfl⟩ := List.mem_map.1 hc
  have := digs_range n z hz
  rw [u8_toNat _ (by omega)]
  omega
theorem atoi_dec (n : Nat) (hn : n ≤ 1000000000000000) : Lib.atoiAll (Lib.decDigits n) = .ok (n : Int) := by
  have hp := parse_dec n hn
  have hr := dec_range n
  have h1 : 1 ≤ (Lib.decDigits n).length := by rw [decDigits_eq, List.length_map]; exact digs_pos n
  cases hd : Lib.decDigits n with
  | nil => rw [hd] at h1; simp at h1
  | cons c r =>
    rw [hd] at hp hr
    have hc := hr c (by simp)
    have n1 : ¬ (c.toNat = 43 ∨ c.toNat = 45) := by omega
    have n2 : ¬ c.toNat = 45 := by omega
    simp only [Lib.atoiAll, Lib.parseMag]
    rw [if_neg n1, if_neg (List.cons_ne_nil c r), hp]
    simp only [n2, not_false_eq_true, true_and, false_and, if_false]
    rw [if_neg (by omega)]
theorem nums_dec (n : Nat) : (strOfNums (M.digs n)).data.toList = Lib.decDigits n := by rw [strOfNums_data, decDigits_eq]
theorem readNumber_digs (n : Nat) (hn : n ≤ 1000000000000) : impl_readNumber.f (strOfNums (M.digs n)) = some ((n : Int), true) := by
  unfold impl_readNumber.f
  have := M.digs_le20 (n := n) (by omega)
  rw [if_pos (by rw [strOfNums_size]; omega), nums_dec, atoi_dec n (by omega)]
  have hi : Lib.itoa (n : Int) = Lib.decDigits n := by rw [Lib.itoa, if_neg (by omega), Int.toNat_natCast]
  simp only [hi, if_true]
theorem readNumber_any (x : ByteArray) (hx : x.size ≤ 1000000000000) : ∃ r, impl_readNumber.f x = some r ∧ (r = (0, false) ∨ r.2 = true ∧ Lib.itoa r.1 = x.data.toList) := by
  unfold impl_readNumber.f
  rw [if_pos (by omega)]
  cases h : Lib.atoiAll x.data.toList with
  | ok v =>
    simp only
    by_cases q : Lib.itoa v = x.data.toList
    · rw [if_pos q]; exact ⟨_, rfl, .inr ⟨rfl, q⟩⟩
    · rw [if_neg q]; exact ⟨_, rfl, .inl rfl⟩
  | _ => exact ⟨_, rfl, .inl rfl⟩
theorem bytes_eq {x y : ByteArray} (h : x.data.toList = y.data.toList) : x = y := ByteArray.ext (Array.toList_inj.1 h)
theorem nums_of_itoa {x : ByteArray} {v : Int} (h0 : 0 ≤ v) (h : Lib.itoa v = x.data.toList) : x = strOfNums (M.digs v.toNat) := by
  refine bytes_eq ?_
  rw [nums_dec, ← h, Lib.itoa, if_neg (by omega)]
theorem cut_last (s : ByteArray) (m : Nat) (h : s.size = m + 1) : s = s.extract 0 m ++ strOfNums [bt s (m : Int)] := by
  have hl : s.data.toList.length = m + 1 := by rw [Array.length_toList]; exact h
  refine bytes_eq ?_
  have hb := bt_range s (m : Int)
  have e : bt s (m : Int) = ((s.data.toList[m]'(by omega)).toNat : Int) := by
    unfold bt
    rw [Int.toNat_natCast, dif_pos (by omega)]
    rfl
  have e2 : UInt8.ofNat (bt s (m : Int)).toNat = s.data.toList[m]'(by omega) := by
    rw [e, Int.toNat_natCast]
    simp
  rw [ByteArray.data_append, Array.toList_append, ByteArray.data_extract, Array.toList_extract, strOfNums_data]
  simp only [List.map_cons, List.map_nil, e2, List.extract_eq_take_drop, List.drop_zero, Nat.sub_zero]
  have e3 : s.data.toList.take (m + 1) = s.data.toList.take m ++ [s.data.toList[m]'(by omega)] := by rw [List.take_add_one, List.getElem?_eq_getElem (by omega)]; rfl
  rw [← e3, List.take_of_length_le (by omega)]
theorem extract_nums (xs : List Int) (c : Int) : (strOfNums (xs ++ [c])).extract 0 xs.length = strOfNums xs := by
  refine bytes_eq ?_
  rw [ByteArray.data_extract, Array.toList_extract, strOfNums_data, strOfNums_data]
  simp [List.extract_eq_take_drop]
theorem as_nums (s : ByteArray) : ∃ xs : List Int, (∀ z ∈ xs, 0 ≤ z ∧ z ≤ 255) ∧ s = strOfNums xs := by
  refine ⟨s.data.toList.map (fun c => (c.toNat : Int)), ?_, bytes_eq ?_⟩
  · intro z hz
    obtain ⟨c, _, rfl⟩ := List.mem_map.1 hz
    have := c.toNat_lt
    omega
  · rw [strOfNums_data, List.map_map]
    have : ((fun n : Int => UInt8.ofNat n.toNat) ∘ fun c : UInt8 => (c.toNat : Int)) = id := by
      funext c
      simp
    rw [this, List.map_id]
def AllD (xs : List Int) : Prop := ∀ z ∈ xs, 48 ≤ z ∧ z ≤ 57
theorem l1Read_gen (xs : List Int) (hx : ∀ z ∈ xs, 0 ≤ z ∧ z ≤ 255) (h6 : xs.length ≤ 6) : ∀ (d i : Nat) (v : Int), i ≤ xs.length → xs.length - i = d → 0 ≤ v → v + 1 ≤ (10 ^ i : Nat) → ∃ r, Ev (fun k => spec_l1Read.l0 k (strOfNums xs) v (i : Int)) r ∧ (r = -1 ∨ AllD (xs.drop i) ∧ r = (xs.drop i).foldl dstep v) := by
  intro d
  induction d with
  | zero =>
    intro i v hi hd h0 h1
    obtain rfl : i = xs.length := by omega
    refine ⟨v, M.Ev_succ (M.Ev_some fun k => ?_), .inr ⟨?_, ?_⟩⟩
    · simp only [spec_l1Read.l0]
      rw [if_neg (by rw [strOfNums_size]; omega)]
    · rw [List.drop_length]; intro z hz; cases hz
    · rw [List.drop_length]; rfl
  | succ d ih =>
    intro i v hi hd h0 h1
    have hlt : i < xs.length := by omega
    have hz := hx _ (List.getElem_mem hlt)
    have e : wrap64 ((i : Int) + 1) = ((i + 1 : Nat) : Int) := by rw [M.w64 (by omega) (by omega)]; omega
    have hp : (10 ^ i : Nat) ≤ 10 ^ 6 := Nat.pow_le_pow_right (by omega) (by omega)
    have hp1 : (10 ^ (i + 1) : Nat) = 10 * 10 ^ i := by rw [Nat.pow_succ, Nat.mul_comm]
    have hb : bt (strOfNums xs) (i : Int) = xs[i] := by
      rw [bt_nums xs hx i hlt, List.getD_eq_getElem?_getD, List.getElem?_eq_getElem hlt]
      rfl
    by_cases c1 : xs[i] < 48
    · refine ⟨-1, M.Ev_succ (M.Ev_some fun k => ?_), .inl rfl⟩
      simp only [spec_l1Read.l0, strOfNums_size, show (i : Int) < (xs.length : Int) by omega, show (0 : Int) ≤ (i : Int) by omega, if_true, hb, c1]
    · by_cases c2 : xs[i] > 57
      · refine ⟨-1, M.Ev_succ (M.Ev_some fun k => ?_), .inl rfl⟩
        simp only [spec_l1Read.l0, strOfNums_size, show (i : Int) < (xs.length : Int) by omega, show (0 : Int) ≤ (i : Int) by omega, if_true, hb, c1, c2, if_false]
      · have ev : wrap64 (wrap64 (10 * v) + (xs[i] - 48) % 256) = dstep v xs[i] := by
          unfold dstep
          rw [M.w64 (x := 10 * v) (by omega) (by omega), M.w64 (by omega) (by omega)]
          omega
        obtain ⟨r, hr, hc⟩ := ih (i + 1) (dstep v xs[i]) (by omega) (by omega) (by unfold dstep; omega) (by unfold dstep; rw [hp1]; omega)
        refine ⟨r, M.Ev_succ ?_, ?_⟩
        · simp only [spec_l1Read.l0, strOfNums_size, show (i : Int) < (xs.length : Int) by omega, show (0 : Int) ≤ (i : Int) by omega, if_true, hb, c1, c2, if_false, ev, e]
          exact hr
        · rcases hc with hc | ⟨hc, hc2⟩
          · exact .inl hc
          · rw [List.drop_eq_getElem_cons hlt]
            refine .inr ⟨?_, hc2⟩
            intro z hz2
            rcases List.mem_cons.1 hz2 with rfl | hz2
            · omega
            · exact hc z hz2
theorem val_nonneg : ∀ (xs : List Int), AllD xs → ∀ v : Int, 0 ≤ v → v ≤ xs.foldl dstep v
  | [], _, v, h => by simp
  | x :: xs, hx, v, h => by
    have h1 := hx x (by simp)
    have h2 := val_nonneg xs (fun z hz => hx z (by simp [hz])) (dstep v x) (by unfold dstep; omega)
    rw [List.foldl_cons]
    unfold dstep at h2 ⊢
    omega
/-- Digits without a zero ahead are the number's own. -/
theorem digs_of_val : ∀ (n : Nat) (xs : List Int), xs.length = n + 1 → AllD xs → (xs.length = 1 ∨ xs.getD 0 0 ≠ 48) → M.digs (xs.foldl dstep 0).toNat = xs := by
  intro n
  induction n with
  | zero =>
    intro xs hl hx _
    match xs, hl with
    | [d], _ =>
      have := hx d (by simp)
      simp only [List.foldl_cons, List.foldl_nil, dstep]
      rw [M.digs_small (by omega)]
      congr 1
      omega
  | succ n ih =>
    intro xs hl hx h0
    obtain ⟨ys, d, rfl⟩ : ∃ ys d, xs = ys ++ [d] := ⟨xs.dropLast, xs.getLast (by intro e; rw [e] at hl; simp at hl), (List.dropLast_concat_getLast _).symm⟩
    have hyl : ys.length = n + 1 := by simpa using hl
    have hd := hx d (by simp)
    have hy : AllD ys := fun z hz => hx z (by simp [hz])
    have hh : (ys ++ [d]).getD 0 0 ≠ 48 := by
      rcases h0 with h0 | h0
      · rw [hl] at h0; omega
      · exact h0
    rw [List.getD_eq_getElem?_getD, List.getElem?_append_left (by omega), ← List.getD_eq_getElem?_getD] at hh
    have hi := ih ys hyl hy (.inr hh)
    have hv : 1 ≤ ys.foldl dstep 0 := by
      match ys, hyl, hy, hh with
      | y :: ys, _, hy, hh =>
        have h1 := hy y (by simp)
        have h2 := val_nonneg ys (fun z hz => hy z (by simp [hz])) (dstep 0 y) (by unfold dstep; omega)
        have hh' : y ≠ 48 := hh
        rw [List.foldl_cons]
        unfold dstep at h2 ⊢
        omega
    rw [List.foldl_append]
    simp only [List.foldl_cons, List.foldl_nil]
    have e1 : (dstep (ys.foldl dstep 0) d).toNat / 10 = (ys.foldl dstep 0).toNat := by rw [dstep_def]; omega
    rw [M.digs_big (by rw [dstep_def]; omega), e1, hi]
    congr 2
    rw [dstep_def]
    omega
/-- What l1Read reads, if it reads a number, is that number's own text. -/
theorem l1Read_conv (s : ByteArray) (hs : s.size ≤ 1000000000000) : ∃ v, Ev (fun k => spec_l1Read.f k s) v ∧ (1 ≤ v → s = strOfNums (M.digs v.toNat)) := by
  obtain ⟨xs, hx, rfl⟩ := as_nums s
  rw [strOfNums_size] at hs
  unfold spec_l1Read.f
  simp only [spec_l1In_eq, Option.bind_some, strOfNums_size]
  by_cases c : (1 : Int) ≤ (xs.length : Int) ∧ (xs.length : Int) ≤ 6
  · obtain ⟨r, hr, hc⟩ := l1Read_gen xs hx (by omega) xs.length 0 0 (by omega) (by omega) (by omega) (by simp)
    have hb : bt (strOfNums xs) 0 = xs.getD 0 0 := bt_nums xs hx 0 (by omega)
    rw [List.drop_zero] at hc
    have good : (xs.length = 1 ∨ xs.getD 0 0 ≠ 48) → 1 ≤ r → strOfNums xs = strOfNums (M.digs r.toNat) := by
      intro h0 h1
      rcases hc with hc | ⟨hc, rfl⟩
      · omega
      · rw [digs_of_val (xs.length - 1) xs (by omega) hc h0]
    simp only [decide_eq_true c, if_true, show (0 : Int) < (xs.length : Int) by omega, hb]
    by_cases c2 : xs.getD 0 0 = 48
    · by_cases c3 : (xs.length : Int) > 1
      · simp only [c2, if_true, decide_eq_true c3]
        exact ⟨-1, M.Ev_succ (M.Ev_some fun k => by simp [spec_l1Read.j0]), fun h => by omega⟩
      · simp only [c2, if_true, decide_eq_false c3]
        exact ⟨r, M.Ev_succ (by simp only [spec_l1Read.j0, Bool.false_eq_true, if_false]; exact hr), good (.inl (by omega))⟩
    · simp only [c2, if_false]
      exact ⟨r, M.Ev_succ (by simp only [spec_l1Read.j0, Bool.false_eq_true, if_false]; exact hr), good (.inr c2)⟩
  · simp only [decide_eq_false c, Bool.false_eq_true, if_false]
    exact ⟨-1, M.Ev_succ (M.Ev_some fun k => by simp [spec_l1Read.j0]), fun h => by omega⟩
def laws_FnExactParseStreet.Pure : Prop := ∀ (a0 : ByteArray), a0.size ≤ 140737488351232 → ∃ k, laws_FnExactParseStreet.f k a0 = some true
def kindOf (c : Int) : Int := if c = 117 then 2 else if c = 111 then 1 else if c = 114 then 0 else -1
theorem kind_all : ∀ n : Fin 256, Lib.indexByte [114, 111, 117] n.val.toUInt8 = (if n.val = 117 then 2 else if n.val = 111 then 1 else if n.val = 114 then 0 else -1) := by decide +kernel
theorem kind_eq (s : ByteArray) : strings_IndexByte.f (⟨#[114, 111, 117]⟩ : ByteArray) (bt s 0) = some (kindOf (bt s 0)) := by
  have h := bt_range s 0
  generalize bt s 0 = c at h
  obtain ⟨n, rfl⟩ := Int.eq_ofNat_of_zero_le h.1
  unfold strings_IndexByte.f kindOf
  have := kind_all ⟨n, by omega⟩
  rw [show ((⟨#[114, 111, 117]⟩ : ByteArray).data.toList) = [114, 111, 117] from rfl, Int.toNat_natCast, this]
  simp only
  congr 1
  by_cases a : n = 117
  · simp [a]
  · by_cases b : n = 111
    · simp [b]
    · by_cases d : n = 114
      · simp [d]
      · rw [if_neg a, if_neg b, if_neg d, if_neg (by omega), if_neg (by omega), if_neg (by omega)]
theorem kinds_ev (s : ByteArray) (hs : 0 < s.size) (v : Int) (r : Int × Int × Bool) (hr : (if M.streetB (kindOf (bt s 0)) v = true then (kindOf (bt s 0), v, true) else (0, 0, false)) = r) : Ev (fun k => spec_nuParse.l0 k s 0 (-1) v) r := by
  have b0 : bt (⟨#[114, 111, 117]⟩ : ByteArray) 0 = 114 := rfl
  have b1 : bt (⟨#[114, 111, 117]⟩ : ByteArray) 1 = 111 := rfl
  have b2 : bt (⟨#[114, 111, 117]⟩ : ByteArray) 2 = 117 := rfl
  have w1 : wrap64 ((0 : Int) + 1) = 1 := by rw [M.w64 (by omega) (by omega)]; rfl
  have w2 : wrap64 ((1 : Int) + 1) = 2 := by rw [M.w64 (by omega) (by omega)]; rfl
  have w3 : wrap64 ((2 : Int) + 1) = 3 := by rw [M.w64 (by omega) (by omega)]; rfl
  have last : ∀ K : Int, K = kindOf (bt s 0) → Ev (fun k => spec_nuParse.l0 k s 3 K v) r := by
    rintro K rfl
    refine M.Ev_succ (M.Ev_some fun k => ?_)
    simp only [spec_nuParse.l0, show ¬ ((3 : Int) < 3) by omega, if_false, spec_nuGood_eq, Option.bind_some]
    rw [← hr]
    split <;> rfl
  have step2 : ∀ K : Int, (if bt s 0 = 117 then 2 else K) = kindOf (bt s 0) → Ev (fun k => spec_nuParse.l0 k s 2 K v) r := by
    intro K hK
    refine M.Ev_succ ?_
    simp only [spec_nuParse.l0, show (2 : Int) < 3 by omega, if_true, show (0 : Int) < (s.size : Int) by omega, show (0 : Int) ≤ 2 by omega, b2, w3]
    by_cases c : bt s 0 = 117
    · simp only [c, if_true] at hK ⊢
      rw [← c] at hK
      exact last 2 hK
    · simp only [c, if_false] at hK ⊢
      exact last K hK
  have step1 : ∀ K : Int, (if bt s 0 = 117 then 2 else if bt s 0 = 111 then 1 else K) = kindOf (bt s 0) → Ev (fun k => spec_nuParse.l0 k s 1 K v) r := by
    intro K hK
    refine M.Ev_succ ?_
    simp only [spec_nuParse.l0, show (1 : Int) < 3 by omega, if_true, show (0 : Int) < (s.size : Int) by omega, show (0 : Int) ≤ 1 by omega, b1, w2]
    by_cases c : bt s 0 = 111
    · simp only [c, if_true]
      exact step2 1 (by rw [if_pos c] at hK; exact hK)
    · simp only [c, if_false]
      exact step2 K (by rw [if_neg c] at hK; exact hK)
  refine M.Ev_succ ?_
  simp only [spec_nuParse.l0, show (0 : Int) < 3 by omega, if_true, show (0 : Int) < (s.size : Int) by omega, show (0 : Int) ≤ 0 by omega, b0, w1]
  by_cases c : bt s 0 = 114
  · simp only [c, if_true]
    refine step1 0 ?_
    unfold kindOf
    rw [if_pos c]
  · simp only [c, if_false]
    refine step1 (-1) ?_
    unfold kindOf
    rw [if_neg c]
theorem FnExactParseStreet : laws_FnExactParseStreet.Pure := by
  intro s _
  refine Ev.rounds (r := true) ?_
  unfold laws_FnExactParseStreet.f spec_ParseStreet.f spec_nuParse.f impl_ParseStreet.f
  by_cases c : (s.size : Int) > 1048576
  · exact M.Ev_some fun k => by rw [if_pos c]
  · simp only [if_neg c]
    have fin : ∀ (r : Int × Int × Bool), (laws_eqStreet.f r.1 r.2.1 r.1 r.2.1).bind (fun t => if t = true then (if (r.2.2 != r.2.2) = true then some false else some true) else some false) = some true := by
      intro r
      simp [laws_eqStreet.f]
    by_cases h0 : s.size = 0
    · have e : s.toList = [] := by rw [ByteArray.toList_eq]; exact List.eq_nil_of_length_eq_zero (by rw [Array.length_toList]; exact h0)
      simp only [spec_l1In_eq, Option.bind_some, decide_eq_false (show ¬ ((2 : Int) ≤ (s.size : Int) ∧ (s.size : Int) ≤ 5) by omega), Bool.false_eq_true, if_false, if_pos e]
      exact M.Ev_some fun k => fin (0, 0, false)
    · have e : ¬ s.toList = [] := by
        rw [ByteArray.toList_eq]
        intro z
        have := congrArg List.length z
        rw [Array.length_toList] at this
        exact h0 this
      have hxs : (s.extract 1 s.size).size = s.size - 1 := by rw [ByteArray.size_extract]; omega
      obtain ⟨q, hq, hq2⟩ := readNumber_any (s.extract 1 s.size) (by rw [hxs]; omega)
      obtain ⟨v, hv, hv2⟩ := l1Read_conv (s.extract 1 s.size) (by rw [hxs]; omega)
      simp only [if_neg e, show (1 : Int) ≤ (s.size : Int) by omega, show (0 : Int) < (s.size : Int) by omega, if_true, hq, kind_eq, Option.bind_some, impl_IsStreet_eq, spec_l1In_eq]
      by_cases hx : ∃ n : Nat, 1 ≤ n ∧ n ≤ 1000 ∧ s.extract 1 s.size = strOfNums (M.digs n)
      · obtain ⟨n, n1, n2, n3⟩ := hx
        have hd := digs_pos n
        have hd4 := digs_tight 3 n (by omega)
        have hz := hxs
        rw [n3, strOfNums_size] at hz
        have hqe : q = ((n : Int), true) := by rw [n3, readNumber_digs n (by omega)] at hq; exact (Option.some.inj hq).symm
        subst hqe
        have hl : Ev (fun k => spec_l1Read.f k (s.extract 1 s.size)) (n : Int) := by rw [n3]; exact l1Read_digs n n1 (by omega)
        simp only [decide_eq_true (show (2 : Int) ≤ (s.size : Int) ∧ (s.size : Int) ≤ 5 by omega), if_true]
        refine Ev.bind (Ev.bind (Ev.bind hl (kinds_ev s (by omega) n _ rfl)) (M.Ev_some fun k => rfl)) (M.Ev_some fun k => ?_)
        split
        · exact fin (kindOf (bt s 0), (n : Int), true)
        · exact fin (0, 0, false)
      · have hi : ∀ w : Int, s.extract 1 s.size = strOfNums (M.digs w.toNat) → ¬ M.streetB (kindOf (bt s 0)) w = true := by
          intro w hw hst
          have := M.streetB_iff.1 hst
          exact hx ⟨w.toNat, by omega, by omega, hw⟩
        have himpl : (if q.2 = true then (if M.streetB (kindOf (bt s 0)) q.1 = true then some (kindOf (bt s 0), q.1, true) else some (0, 0, false)) else some (0, 0, false)) = some ((0 : Int), (0 : Int), false) := by
          rcases hq2 with rfl | ⟨h1, h2⟩
          · rfl
          · rw [if_pos h1]
            by_cases hst : M.streetB (kindOf (bt s 0)) q.1 = true
            · have := M.streetB_iff.1 hst
              exact absurd hst (hi q.1 (nums_of_itoa (by omega) h2))
            · rw [if_neg hst]
        rw [himpl]
        simp only [Option.bind_some]
        by_cases c2 : (2 : Int) ≤ (s.size : Int) ∧ (s.size : Int) ≤ 5
        · simp only [decide_eq_true c2, if_true]
          have hst : ¬ M.streetB (kindOf (bt s 0)) v = true := by
            intro hst
            have := M.streetB_iff.1 hst
            exact hi v (hv2 (by omega)) hst
          refine Ev.bind (Ev.bind (a := (0, 0, false)) (Ev.bind hv (kinds_ev s (by omega) v _ (by rw [if_neg hst]))) (M.Ev_some fun k => rfl)) (M.Ev_some fun k => ?_)
          exact fin (0, 0, false)
        · simp only [decide_eq_false c2, Bool.false_eq_true, if_false, Option.bind_some]
          exact M.Ev_some fun k => fin (0, 0, false)

end Go.Proofs.YtflifmlgpndjjaaDoor.Pure
