/- The program's NextHouses and the reference's answer the same for all 64-bit numbers, and the result shares no memory: no further condition. -/
import Derived.Test.YtgjgbdpfjohaaaaM
import Derived.Test.YtgjgbdpfjohaaaaPFnExactNextHousesx9
namespace Go.Proofs.Ytgjgbdpfjohaaaa.Pure
open Go.RowKit Go.Proofs.Ytgjgbdpfjohaaaa.PFnExactNextHouses Go.Proofs.YtgjgbdpfjohaaaaW.PrintWords Go.Proofs.YtgjgbdpfjohaaaaW.PrintLast Go.Proofs.YtgjgbdpfjohaaaaW.PrintMore
set_option linter.unusedVariables false
set_option linter.unusedSimpArgs false
theorem spec_l1In_eq (a b c : Int) : spec_l1In.f a b c = some (decide (b ≤ a ∧ a ≤ c)) := by
  unfold spec_l1In.f
  by_cases h : a ≥ b
  · rw [if_pos h]; simp [show b ≤ a from h]
  · rw [if_neg h]; simp [show ¬ b ≤ a from h]
theorem impl_within_eq (a b c : Int) : impl_within.f a b c = some (decide (b ≤ a ∧ a ≤ c)) := by
  unfold impl_within.f
  by_cases h : a ≥ b
  · rw [if_pos h]; simp [show b ≤ a from h]
  · rw [if_neg h]; simp [show ¬ b ≤ a from h]
theorem spec_nuGood_eq (k p : Int) : spec_nuGood.f k p = some (M.streetB k p) := by
  unfold spec_nuGood.f M.streetB
  simp only [spec_l1In_eq, Option.bind_some]
  by_cases h : 0 ≤ k ∧ k ≤ 2 <;> simp [h]
theorem impl_IsStreet_eq (k p : Int) : impl_IsStreet.f k p = some (M.streetB k p) := by
  unfold impl_IsStreet.f M.streetB
  simp only [impl_within_eq, Option.bind_some]
  by_cases h : 0 ≤ k ∧ k ≤ 2 <;> simp [h]
theorem spec_nuHouses_eq {k p : Int} (h : M.streetB k p = true) : spec_nuHouses.f k p = some (M.houses k p) := by
  have h' := M.streetB_iff.1 h
  unfold spec_nuHouses.f M.houses
  rw [M.w64 (by omega) (by omega)]
  split <;> rfl
theorem impl_housesOf_eq {k p : Int} (h : M.streetB k p = true) : impl_housesOf.f k p = some (M.houses k p) := by
  have h' := M.streetB_iff.1 h
  unfold impl_housesOf.f M.houses
  rw [M.w64 (by omega) (by omega)]
  split <;> rfl
theorem spec_nuAsked_eq (k p n : Int) : spec_nuAsked.f k p n = some (M.asked k p n) := by
  unfold spec_nuAsked.f M.asked
  simp only [spec_nuGood_eq, Option.bind_some]
  by_cases h : M.streetB k p = true
  · rw [if_pos h, spec_nuHouses_eq h]
    simp only [Option.bind_some, spec_l1In_eq, h, Bool.true_and]
  · rw [if_neg h]; simp [h]
theorem impl_isHouse_eq (k p n : Int) : impl_isHouse.f k p n = some (M.asked k p n) := by
  unfold impl_isHouse.f M.asked
  simp only [impl_IsStreet_eq, Option.bind_some]
  by_cases h : M.streetB k p = true
  · rw [if_pos h, impl_housesOf_eq h]
    simp only [Option.bind_some, impl_within_eq, h, Bool.true_and]
  · rw [if_neg h]; simp [h]
theorem spec_nuPlot_eq {k p n : Int} (h : M.asked k p n = true) : spec_nuPlot.f k p n = some (M.side k p n, M.plot k p n) := by
  have hb := M.asked_bd h
  unfold spec_nuPlot.f M.side M.plot
  rw [M.tmod_pos (a := n) (by omega), M.w64 (x := n - 1) (by omega) (by omega), M.tdiv_pos (a := n - 1) (by omega), M.w64 (x := 1 - n % 2) (by omega) (by omega), M.w64 (x := (n - 1) / 2) (by omega) (by omega), M.w64 (x := 2 * p) (by omega) (by omega), M.w64 (x := 2 * p - n) (by omega) (by omega)]
  by_cases c : k = 1
  · simp only [c, if_true]
    rw [show 1 - n % 2 = (n - 1) % 2 by omega]
  · simp only [c, if_false]
    split <;> rfl
theorem impl_plotOf_eq {k p n : Int} (h : M.asked k p n = true) : impl_plotOf.f k p n = some (M.side k p n, M.plot k p n) := by
  have hb := M.asked_bd h
  unfold impl_plotOf.f M.side M.plot
  rw [M.w64 (x := n - 1) (by omega) (by omega), M.tmod_pos (a := n - 1) (by omega), M.tdiv_pos (a := n - 1) (by omega), M.w64 (x := (n - 1) / 2) (by omega) (by omega), M.w64 (x := 2 * p) (by omega) (by omega), M.w64 (x := 2 * p - n) (by omega) (by omega)]
  by_cases c : k = 1
  · simp only [c, if_true]
  · simp only [c, if_false]
    split <;> rfl
theorem spec_nuNumber_eq {k p s q : Int} (h : M.streetB k p = true) (hs : 0 ≤ s ∧ s ≤ 1) (hq : 0 ≤ q ∧ q < p) : spec_nuNumber.f k p s q = some (M.number k p s q) := by
  have h' := M.streetB_iff.1 h
  unfold spec_nuNumber.f M.number
  rw [M.w64 (x := 2 * q) (by omega) (by omega), M.w64 (x := 2 * q + 1) (by omega) (by omega), M.w64 (x := 2 * q + 1 + s) (by omega) (by omega), M.w64 (x := 2 * p) (by omega) (by omega), M.w64 (x := 2 * p - q) (by omega) (by omega), M.w64 (x := q + 1) (by omega) (by omega)]
  repeat' split
  all_goals rfl
theorem impl_numberAt_eq {k p s q : Int} (h : M.streetB k p = true) (hs : 0 ≤ s ∧ s ≤ 1) (hq : 0 ≤ q ∧ q < p) : impl_numberAt.f k p s q = some (M.number k p s q) := by
  have h' := M.streetB_iff.1 h
  unfold impl_numberAt.f M.number
  rw [M.w64 (x := 2 * q) (by omega) (by omega), M.w64 (x := 2 * q + 1) (by omega) (by omega), M.w64 (x := 2 * q + 1 + s) (by omega) (by omega), M.w64 (x := 2 * p) (by omega) (by omega), M.w64 (x := 2 * p - q) (by omega) (by omega), M.w64 (x := q + 1) (by omega) (by omega)]
  repeat' split
  all_goals rfl
theorem ms_eq (l m : List Int) (hp : m.Perm l) (hs : m.Pairwise (fun x y => x ≤ y)) : l.mergeSort (fun x y => decide (x ≤ y)) = m := by
  refine List.Perm.eq_of_pairwise (le := fun x y => x ≤ y) (fun a b _ _ h1 h2 => Int.le_antisymm h1 h2) ?_ hs ((List.mergeSort_perm l _).trans hp.symm)
  have := List.pairwise_mergeSort (le := fun x y : Int => decide (x ≤ y)) (by intro a b c; simp; omega) (by intro a b; simp; omega) l
  exact this.imp (fun h => by simpa using h)
theorem ms_two {a x : Int} (h : a ≠ x) : [a, x].mergeSort (fun x y => decide (x ≤ y)) = if a < x then [a, x] else [x, a] := by
  split
  · exact ms_eq _ _ (List.Perm.refl _) (by simp; omega)
  · exact ms_eq _ _ (List.Perm.swap _ _ _) (by simp; omega)
theorem ms_one (a : Int) : [a].mergeSort (fun x y => decide (x ≤ y)) = [a] := ms_eq _ _ (List.Perm.refl _) (by simp)
theorem ms_none : ([] : List Int).mergeSort (fun x y => decide (x ≤ y)) = [] := ms_eq _ _ (List.Perm.refl _) (by simp)
theorem put_none (x : Int) : Ev (fun k => spec_l1Put.f k [] x) [x] := by
  unfold spec_l1Put.f
  refine M.Ev_succ (M.Ev_some fun k => ?_)
  simp [spec_l1Put.l0]
theorem put_one {a x : Int} (h : a ≠ x) : Ev (fun k => spec_l1Put.f k [a] x) (if a < x then [a, x] else [x, a]) := by
  unfold spec_l1Put.f
  refine M.Ev_succ ?_
  have e : wrap64 ((0 : Int) + 1) = 1 := M.w64 (by omega) (by omega)
  have e1 : wrap64 (1 : Int) = 1 := M.w64 (by omega) (by omega)
  have hr : rd [a] 0 = a := rfl
  by_cases c : a < x
  · refine M.Ev_succ (M.Ev_some fun k => ?_)
    simp [spec_l1Put.l0, hr, c, e1]
  · refine M.Ev_some fun k => ?_
    simp [spec_l1Put.l0, hr, c, h]
/-- The houses on the same side at the plots before and behind. -/
def nextL (k p n : Int) : List Int :=
  ((if 0 ≤ M.plot k p n - 1 then [M.number k p (M.side k p n) (M.plot k p n - 1)] else []) ++ (if M.plot k p n + 1 ≤ p - 1 then [M.number k p (M.side k p n) (M.plot k p n + 1)] else [])).mergeSort (fun x y => decide (x ≤ y))
def nextR (k p n : Int) : List Int × Bool := if M.asked k p n = true then (nextL k p n, true) else ([], false)
theorem nextR_len (k p n : Int) : (nextR k p n).1.length ≤ 2 := by
  unfold nextR nextL
  split
  · rw [List.length_mergeSort, List.length_append]
    split <;> split <;> simp
  · simp
theorem NextHouses_ev (k p n : Int) : Ev (fun r => spec_NextHouses.f r k p n) (nextR k p n) ∧ Ev (fun r => impl_NextHouses.f r k p n) (nextR k p n) := by
  unfold spec_NextHouses.f impl_NextHouses.f nextR
  simp only [spec_nuAsked_eq, impl_isHouse_eq, Option.bind_some]
  by_cases h : M.asked k p n = true
  · have hb := M.asked_bd h
    have hst : M.streetB k p = true := (M.asked_iff.1 h).1
    simp only [h, if_true, spec_nuPlot_eq h, impl_plotOf_eq h, Option.bind_some]
    unfold nextL
    obtain ⟨q, hq⟩ : ∃ q, M.plot k p n = q := ⟨_, rfl⟩
    obtain ⟨s, hs⟩ : ∃ s, M.side k p n = s := ⟨_, rfl⟩
    rw [hq, hs] at hb ⊢
    have w1 : wrap64 (q - 1) = q - 1 := M.w64 (by omega) (by omega)
    have w2 : wrap64 (q + 1) = q + 1 := M.w64 (by omega) (by omega)
    have w3 : wrap64 (p - 1) = p - 1 := M.w64 (by omega) (by omega)
    have w4 : wrap64 ((0 : Int) + 1) = 1 := M.w64 (by omega) (by omega)
    have w5 : wrap64 ((1 : Int) + 1) = 2 := M.w64 (by omega) (by omega)
    have r0 : rd [q - 1, q + 1] 0 = q - 1 := rfl
    have r1 : rd [q - 1, q + 1] 1 = q + 1 := rfl
    rw [w1, w2]
    by_cases c1 : 0 ≤ q - 1
    · have n1s := spec_nuNumber_eq (s := s) (q := q - 1) hst (by omega) (by omega)
      have n1i := impl_numberAt_eq (s := s) (q := q - 1) hst (by omega) (by omega)
      by_cases c2 : q + 1 ≤ p - 1
      · have n2s := spec_nuNumber_eq (s := s) (q := q + 1) hst (by omega) (by omega)
        have n2i := impl_numberAt_eq (s := s) (q := q + 1) hst (by omega) (by omega)
        have hne : M.number k p s (q - 1) ≠ M.number k p s (q + 1) := by
          unfold M.number
          repeat' split
          all_goals omega
        rw [if_pos c1, if_pos c2, List.singleton_append, ms_two hne]
        refine ⟨?_, M.Ev_some fun r => ?_⟩
        · refine M.Ev_succ ?_
          simp only [spec_NextHouses.l0, List.length_cons, List.length_nil, show (0 : Int) < ((0 + 1 + 1 : Nat) : Int) by omega, if_true, show (0 : Int) ≤ 0 by omega, r0, w3, spec_l1In_eq, Option.bind_some, show (0 ≤ q - 1 ∧ q - 1 ≤ p - 1) = True by simp; omega, decide_true, n1s, w4]
          refine Ev.bind (put_none _) (M.Ev_succ ?_)
          simp only [spec_NextHouses.l0, List.length_cons, List.length_nil, show (1 : Int) < ((0 + 1 + 1 : Nat) : Int) by omega, if_true, show (0 : Int) ≤ 1 by omega, r1, w3, spec_l1In_eq, Option.bind_some, show (0 ≤ q + 1 ∧ q + 1 ≤ p - 1) = True by simp; omega, decide_true, n2s, w5]
          refine Ev.bind (put_one hne) (M.Ev_succ (M.Ev_some fun r => ?_))
          simp [spec_NextHouses.l0]
        · unfold impl_NextHouses.one
          simp only [w3, impl_within_eq, Option.bind_some, show (0 ≤ q - 1 ∧ q - 1 ≤ p - 1) = True by simp; omega, show (0 ≤ q + 1 ∧ q + 1 ≤ p - 1) = True by simp; omega, decide_true, if_true, n1i, n2i, List.length_nil, List.nil_append, show (0 : Nat) < 1000 by omega, List.length_singleton, show (1 : Nat) < 1000 by omega, List.singleton_append, ms_two hne]
      · rw [if_pos c1, if_neg c2, List.append_nil, ms_one]
        refine ⟨?_, M.Ev_some fun r => ?_⟩
        · refine M.Ev_succ ?_
          simp only [spec_NextHouses.l0, List.length_cons, List.length_nil, show (0 : Int) < ((0 + 1 + 1 : Nat) : Int) by omega, if_true, show (0 : Int) ≤ 0 by omega, r0, w3, spec_l1In_eq, Option.bind_some, show (0 ≤ q - 1 ∧ q - 1 ≤ p - 1) = True by simp; omega, decide_true, n1s, w4]
          refine Ev.bind (put_none _) (M.Ev_succ ?_)
          simp only [spec_NextHouses.l0, List.length_cons, List.length_nil, show (1 : Int) < ((0 + 1 + 1 : Nat) : Int) by omega, if_true, show (0 : Int) ≤ 1 by omega, r1, w3, spec_l1In_eq, Option.bind_some, show (0 ≤ q + 1 ∧ q + 1 ≤ p - 1) = False by simp; omega, decide_false, Bool.false_eq_true, if_false, w5]
          refine M.Ev_succ (M.Ev_some fun r => ?_)
          simp [spec_NextHouses.l0]
        · unfold impl_NextHouses.one
          simp only [w3, impl_within_eq, Option.bind_some, show (0 ≤ q - 1 ∧ q - 1 ≤ p - 1) = True by simp; omega, show (0 ≤ q + 1 ∧ q + 1 ≤ p - 1) = False by simp; omega, decide_true, decide_false, Bool.false_eq_true, if_false, if_true, n1i, List.length_nil, List.nil_append, show (0 : Nat) < 1000 by omega, ms_one]
    · by_cases c2 : q + 1 ≤ p - 1
      · have n2s := spec_nuNumber_eq (s := s) (q := q + 1) hst (by omega) (by omega)
        have n2i := impl_numberAt_eq (s := s) (q := q + 1) hst (by omega) (by omega)
        rw [if_neg c1, if_pos c2, List.nil_append, ms_one]
        refine ⟨?_, M.Ev_some fun r => ?_⟩
        · refine M.Ev_succ ?_
          simp only [spec_NextHouses.l0, List.length_cons, List.length_nil, show (0 : Int) < ((0 + 1 + 1 : Nat) : Int) by omega, if_true, show (0 : Int) ≤ 0 by omega, r0, w3, spec_l1In_eq, Option.bind_some, show (0 ≤ q - 1 ∧ q - 1 ≤ p - 1) = False by simp; omega, decide_false, Bool.false_eq_true, if_false, w4]
          refine M.Ev_succ ?_
          simp only [spec_NextHouses.l0, List.length_cons, List.length_nil, show (1 : Int) < ((0 + 1 + 1 : Nat) : Int) by omega, if_true, show (0 : Int) ≤ 1 by omega, r1, w3, spec_l1In_eq, Option.bind_some, show (0 ≤ q + 1 ∧ q + 1 ≤ p - 1) = True by simp; omega, decide_true, n2s, w5]
          refine Ev.bind (put_none _) (M.Ev_succ (M.Ev_some fun r => ?_))
          simp [spec_NextHouses.l0]
        · unfold impl_NextHouses.one
          simp only [w3, impl_within_eq, Option.bind_some, show (0 ≤ q - 1 ∧ q - 1 ≤ p - 1) = False by simp; omega, show (0 ≤ q + 1 ∧ q + 1 ≤ p - 1) = True by simp; omega, decide_true, decide_false, Bool.false_eq_true, if_false, if_true, n2i, List.length_nil, List.nil_append, show (0 : Nat) < 1000 by omega, ms_one]
      · rw [if_neg c1, if_neg c2, List.append_nil, ms_none]
        refine ⟨?_, M.Ev_some fun r => ?_⟩
        · refine M.Ev_succ ?_
          simp only [spec_NextHouses.l0, List.length_cons, List.length_nil, show (0 : Int) < ((0 + 1 + 1 : Nat) : Int) by omega, if_true, show (0 : Int) ≤ 0 by omega, r0, w3, spec_l1In_eq, Option.bind_some, show (0 ≤ q - 1 ∧ q - 1 ≤ p - 1) = False by simp; omega, decide_false, Bool.false_eq_true, if_false, w4]
          refine M.Ev_succ ?_
          simp only [spec_NextHouses.l0, List.length_cons, List.length_nil, show (1 : Int) < ((0 + 1 + 1 : Nat) : Int) by omega, if_true, show (0 : Int) ≤ 1 by omega, r1, w3, spec_l1In_eq, Option.bind_some, show (0 ≤ q + 1 ∧ q + 1 ≤ p - 1) = False by simp; omega, decide_false, Bool.false_eq_true, if_false, w5]
          refine M.Ev_succ (M.Ev_some fun r => ?_)
          simp [spec_NextHouses.l0]
        · unfold impl_NextHouses.one
          simp only [w3, impl_within_eq, Option.bind_some, show (0 ≤ q - 1 ∧ q - 1 ≤ p - 1) = False by simp; omega, show (0 ≤ q + 1 ∧ q + 1 ≤ p - 1) = False by simp; omega, decide_false, Bool.false_eq_true, if_false, ms_none]
  · simp only [h, Bool.false_eq_true, if_false]
    exact ⟨M.Ev_some fun r => rfl, M.Ev_some fun r => rfl⟩
theorem toStreet_eq (n l : Int) : laws_toStreet.f n l = some (n, l) := rfl
theorem eqIntS_loop (l : List Int) (hl : l.length ≤ 1000000000000) : ∀ (d i : Nat), i ≤ l.length → l.length - i = d → Ev (fun k => laws_eqIntS.l0 k l l (i : Int)) true := by
  intro d
  induction d with
  | zero =>
    intro i hi hd
    refine M.Ev_succ (M.Ev_some fun k => ?_)
    simp only [laws_eqIntS.l0]
    rw [if_neg (by omega)]
  | succ d ih =>
    intro i hi hd
    have e : wrap64 ((i : Int) + 1) = ((i + 1 : Nat) : Int) := by rw [M.w64 (by omega) (by omega)]; omega
    refine M.Ev_succ ?_
    simp only [laws_eqIntS.l0, show (i : Int) < (l.length : Int) by omega, show (0 : Int) ≤ (i : Int) by omega, if_true, e]
    exact ih (i + 1) (by omega) (by omega)
theorem eqIntS_ev (l : List Int) (hl : l.length ≤ 1000000000000) : Ev (fun k => laws_eqIntS.f k l l) true := by
  unfold laws_eqIntS.f
  simp only [if_true]
  exact eqIntS_loop l hl l.length 0 (by omega) (by omega)
theorem markIntS_loop (n : Nat) (hn : n ≤ 1000000000000) (m : Int) (hm : 0 ≤ m) (hm2 : m ≤ 1000000000000) : ∀ (d i : Nat) (acc : List Int), i ≤ n → n - i = d → acc.length = n → acc.take i = (M.runI m n).take i →
    Ev (fun k => laws_markIntS.l0 k acc (m + (i : Int)) (i : Int)) (m + (n : Int), M.runI m n) := by
  intro d
  induction d with
  | zero =>
    intro i acc hi hd ha ht
    obtain rfl : i = n := by omega
    refine M.Ev_succ (M.Ev_some fun k => ?_)
    simp only [laws_markIntS.l0]
    rw [if_neg (by omega), M.take_all ha (M.runI_length _ _) ht]
  | succ d ih =>
    intro i acc hi hd ha ht
    have e : wrap64 ((i : Int) + 1) = ((i + 1 : Nat) : Int) := by rw [M.w64 (by omega) (by omega)]; omega
    have e2 : wrap64 (m + (i : Int) + 1) = m + ((i + 1 : Nat) : Int) := by rw [M.w64 (by omega) (by omega)]; omega
    refine M.Ev_succ ?_
    simp only [laws_markIntS.l0, show (i : Int) < (acc.length : Int) by omega, show (0 : Int) ≤ (i : Int) by omega, if_true, e, e2, Int.toNat_natCast]
    refine ih (i + 1) _ (by omega) (by omega) (by rw [List.length_set]; exact ha) ?_
    exact M.take_set_succ (by omega) (by rw [M.runI_length]; omega) ht (by rw [M.runI_get])
theorem markIntS_ev (l : List Int) (hl : l.length ≤ 1000000000000) (m : Int) (hm : 0 ≤ m) (hm2 : m ≤ 1000000000000) : Ev (fun k => laws_markIntS.f k l m) (m + (l.length : Int), M.runI m l.length) := by
  unfold laws_markIntS.f
  have := markIntS_loop l.length hl m hm hm2 l.length 0 l (by omega) (by omega) rfl (by simp)
  simpa using this
theorem heldIntS_loop (n : Nat) (hn : n ≤ 1000000000000) (m : Int) (hm : 0 ≤ m) (hm2 : m ≤ 1000000000000) : ∀ (d i : Nat), i ≤ n → n - i = d → Ev (fun k => laws_heldIntS.l0 k (M.runI m n) (m + (i : Int)) (i : Int)) (m + (n : Int)) := by
  intro d
  induction d with
  | zero =>
    intro i hi hd
    obtain rfl : i = n := by omega
    refine M.Ev_succ (M.Ev_some fun k => ?_)
    simp only [laws_heldIntS.l0]
    rw [if_neg (by rw [M.runI_length]; omega)]
  | succ d ih =>
    intro i hi hd
    have e : wrap64 ((i : Int) + 1) = ((i + 1 : Nat) : Int) := by rw [M.w64 (by omega) (by omega)]; omega
    have e2 : wrap64 (m + (i : Int) + 1) = m + ((i + 1 : Nat) : Int) := by rw [M.w64 (by omega) (by omega)]; omega
    have hr : rd (M.runI m n) (i : Int) = m + (i : Int) := by rw [M.rd_get (by rw [M.runI_length]; omega), M.runI_get]
    refine M.Ev_succ ?_
    simp only [laws_heldIntS.l0, show (i : Int) < ((M.runI m n).length : Int) by rw [M.runI_length]; omega, show (0 : Int) ≤ (i : Int) by omega, if_true, hr, e, e2]
    exact ih (i + 1) (by omega) (by omega)
theorem heldIntS_ev (n : Nat) (hn : n ≤ 1000000000000) (m : Int) (hm : 0 ≤ m) (hm2 : m ≤ 1000000000000) : Ev (fun k => laws_heldIntS.f k (M.runI m n) m) (m + (n : Int)) := by
  unfold laws_heldIntS.f
  have := heldIntS_loop n hn m hm hm2 n 0 (by omega) (by omega)
  simpa using this
def laws_FnExactNextHouses.Pure : Prop := ∀ (a0_0 a0_1 : Int) (a1 : Int), (Lit.int .i64 a0_0).wf = true → (Lit.int .i64 a0_1).wf = true → (Lit.int .i64 a1).wf = true → ∃ k, laws_FnExactNextHouses.f k a0_0 a0_1 a1 = some true
theorem FnExactNextHouses : laws_FnExactNextHouses.Pure := by
  intro a b c _ _ _
  obtain ⟨h1, h2⟩ := NextHouses_ev a b c
  have hr : (nextR a b c).1.length ≤ 1000000000000 := by have := nextR_len a b c; omega
  generalize nextR a b c = r at h1 h2 hr
  refine Ev.rounds (r := true) ?_
  unfold laws_FnExactNextHouses.f
  simp only [toStreet_eq, Option.bind_some]
  refine Ev.bind h1 (Ev.bind h2 (Ev.bind (eqIntS_ev r.1 hr) ?_))
  simp only [if_true, bne_self_eq_false]
  refine M.Ev_succ ?_
  simp only [laws_FnExactNextHouses.j0, Bool.false_eq_true, if_false]
  refine Ev.bind (markIntS_ev r.1 hr 1 (by omega) (by omega)) (Ev.bind (heldIntS_ev r.1.length hr 1 (by omega) (by omega)) ?_)
  simp only [show ¬ ((1 : Int) + (r.1.length : Int) < 0) by omega, if_false, if_true, toStreet_eq, Option.bind_some]
  refine Ev.bind h2 (Ev.bind (eqIntS_ev r.1 hr) ?_)
  simp only [if_true, bne_self_eq_false]
  refine M.Ev_succ ?_
  simp only [laws_FnExactNextHouses.j1, Bool.false_eq_true, if_false]
  refine Ev.bind (heldIntS_ev r.1.length hr 1 (by omega) (by omega)) (M.Ev_some fun k => ?_)
  rw [if_neg (by omega), if_pos rfl]

end Go.Proofs.Ytgjgbdpfjohaaaa.Pure
