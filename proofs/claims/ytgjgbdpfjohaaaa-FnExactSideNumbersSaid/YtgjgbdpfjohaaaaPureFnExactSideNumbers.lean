/- The program's SideNumbers and the reference's answer the same for all 64-bit numbers, and the result shares no memory: no further condition. -/
import Derived.Test.YtgjgbdpfjohaaaaM
import Derived.Test.YtgjgbdpfjohaaaaPFnExactSideNumbersx2
namespace Go.Proofs.Ytgjgbdpfjohaaaa.Pure
open Go.RowKit Go.Proofs.Ytgjgbdpfjohaaaa.PFnExactSideNumbers Go.Proofs.YtgjgbdpfjohaaaaW.PrintWords Go.Proofs.YtgjgbdpfjohaaaaW.PrintLast Go.Proofs.YtgjgbdpfjohaaaaW.PrintMore
set_option linter.unusedVariables false
set_option linter.unusedSimpArgs false
theorem spec_l1In_eq (a b c : Int) : spec_l1In.f a b c = some (decide (b ≤ a ∧ a ≤ c)) := by
  unfold spec_l1In.f
  by_cases h : a ≥ b
  · rw [if_pos h]; simp [show b ≤ a from h]
  · rw [if_neg h]; simp [show ¬ b ≤ a from h]
theorem impl_within_eq (a b c : Int) : impl_within.f a b c = some (decide (b ≤ a ∧ a ≤ c)) := by
  unfold impl_within.f
  by_cases h : a ≥ b
  · rw [if_pos h]; simp [show b ≤ a from h]
  · rw [if_neg h]; simp [show ¬ b ≤ a from h]
theorem spec_nuGood_eq (k p : Int) : spec_nuGood.f k p = some (M.streetB k p) := by
  unfold spec_nuGood.f M.streetB
  simp only [spec_l1In_eq, Option.bind_some]
  by_cases h : 0 ≤ k ∧ k ≤ 2 <;> simp [h]
theorem impl_IsStreet_eq (k p : Int) : impl_IsStreet.f k p = some (M.streetB k p) := by
  unfold impl_IsStreet.f M.streetB
  simp only [impl_within_eq, Option.bind_some]
  by_cases h : 0 ≤ k ∧ k ≤ 2 <;> simp [h]
theorem spec_nuNumber_eq {k p s q : Int} (h : M.streetB k p = true) (hs : 0 ≤ s ∧ s ≤ 1) (hq : 0 ≤ q ∧ q < p) : spec_nuNumber.f k p s q = some (M.number k p s q) := by
  have h' := M.streetB_iff.1 h
  unfold spec_nuNumber.f M.number
  rw [M.w64 (x := 2 * q) (by omega) (by omega), M.w64 (x := 2 * q + 1) (by omega) (by omega), M.w64 (x := 2 * q + 1 + s) (by omega) (by omega), M.w64 (x := 2 * p) (by omega) (by omega), M.w64 (x := 2 * p - q) (by omega) (by omega), M.w64 (x := q + 1) (by omega) (by omega)]
  repeat' split
  all_goals rfl
theorem impl_numberAt_eq {k p s q : Int} (h : M.streetB k p = true) (hs : 0 ≤ s ∧ s ≤ 1) (hq : 0 ≤ q ∧ q < p) : impl_numberAt.f k p s q = some (M.number k p s q) := by
  have h' := M.streetB_iff.1 h
  unfold impl_numberAt.f M.number
  rw [M.w64 (x := 2 * q) (by omega) (by omega), M.w64 (x := 2 * q + 1) (by omega) (by omega), M.w64 (x := 2 * q + 1 + s) (by omega) (by omega), M.w64 (x := 2 * p) (by omega) (by omega), M.w64 (x := 2 * p - q) (by omega) (by omega), M.w64 (x := q + 1) (by omega) (by omega)]
  repeat' split
  all_goals rfl
theorem nuSide_eq (k p s : Int) (hk : 0 ≤ k) (hs : 0 ≤ s ∧ s ≤ 1) : spec_nuSide.f k p s = some (!decide (s = 1 ∧ k = 0)) := by
  unfold spec_nuSide.f
  by_cases c : s = 0
  · rw [if_pos c]; simp [c]
  · have c1 : s = 1 := by omega
    rw [if_neg c, if_pos c1]
    simp only [Option.some.injEq, c1, true_and]
    rw [Bool.eq_iff_iff]; simp; omega
theorem nuNumbers_loop {k p s : Int} (h : M.streetB k p = true) (hs : 0 ≤ s ∧ s ≤ 1) (hn : ¬ (s = 1 ∧ k = 0)) : ∀ (d i : Nat), (i : Int) ≤ p → p.toNat - i = d →
    Ev (fun r => spec_nuNumbers.l0 r s (M.numsL k p s i) (i : Int) k p) (M.numsL k p s p.toNat) := by
  have hp := M.streetB_iff.1 h
  intro d
  induction d with
  | zero =>
    intro i hi hd
    refine M.Ev_succ (M.Ev_some fun r => ?_)
    simp only [spec_nuNumbers.l0]
    rw [if_neg (by omega), show i = p.toNat by omega]
  | succ d ih =>
    intro i hi hd
    have e : wrap64 ((i : Int) + 1) = ((i + 1 : Nat) : Int) := by rw [M.w64 (by omega) (by omega)]; omega
    refine M.Ev_succ ?_
    simp only [spec_nuNumbers.l0, show (i : Int) < p by omega, if_true, nuSide_eq k p s hp.1 hs, hn, decide_false, Bool.not_false, Option.bind_some, spec_nuNumber_eq h hs (show 0 ≤ (i : Int) ∧ (i : Int) < p by omega), M.numsL_length, show i < 17592186044416 by omega, e]
    rw [← M.numsL_succ]
    exact ih (i + 1) (by omega) (by omega)
theorem nuNumbers_ev {k p s : Int} (h : M.streetB k p = true) (hs : 0 ≤ s ∧ s ≤ 1) : Ev (fun r => spec_nuNumbers.f r k p s) (M.numsR k p s) := by
  have hp := M.streetB_iff.1 h
  unfold spec_nuNumbers.f M.numsR
  by_cases c : s = 1 ∧ k = 0
  · rw [if_pos c]
    refine M.Ev_succ (M.Ev_some fun r => ?_)
    simp only [spec_nuNumbers.l0]
    rw [if_pos (by omega), nuSide_eq k p s hp.1 hs, decide_eq_true c]
    rfl
  · rw [if_neg c]
    exact nuNumbers_loop h hs c p.toNat 0 (by omega) (by omega)
theorem sideNumbers_loop {k p s : Int} (h : M.streetB k p = true) (hs : 0 ≤ s ∧ s ≤ 1) (n : Nat) (hn : (n : Int) = p) : ∀ (d i : Nat) (acc : List Int), i ≤ n → n - i = d → acc.length = n → acc.take i = (M.numsL k p s n).take i →
    Ev (fun r => impl_sideNumbers.l0 r s acc (n : Int) (i : Int) k p) (M.numsL k p s n) := by
  have hp := M.streetB_iff.1 h
  intro d
  induction d with
  | zero =>
    intro i acc hi hd ha ht
    refine M.Ev_succ (M.Ev_some fun r => ?_)
    simp only [impl_sideNumbers.l0]
    rw [if_neg (by omega), M.take_all (by omega) (by rw [M.numsL_length]; omega) ht]
  | succ d ih =>
    intro i acc hi hd ha ht
    have e : wrap64 ((i : Int) + 1) = ((i + 1 : Nat) : Int) := by rw [M.w64 (by omega) (by omega)]; omega
    refine M.Ev_succ ?_
    simp only [impl_sideNumbers.l0, show (i : Int) < (n : Int) by omega, if_true, impl_numberAt_eq h hs (show 0 ≤ (i : Int) ∧ (i : Int) < p by omega), Option.bind_some, show (0 : Int) ≤ (i : Int) by omega, show (i : Int) < (acc.length : Int) by omega, e, Int.toNat_natCast]
    refine ih (i + 1) _ (by omega) (by omega) (by rw [List.length_set]; exact ha) ?_
    exact M.take_set_succ (by omega) (by rw [M.numsL_length]; omega) ht (by rw [M.numsL_get])
theorem sideNumbers_ev {k p s : Int} (h : M.streetB k p = true) (hs : 0 ≤ s ∧ s ≤ 1) : Ev (fun r => impl_sideNumbers.f r k p s) (M.numsR k p s) := by
  have hp := M.streetB_iff.1 h
  have main : ¬ (s = 1 ∧ k = 0) → Ev (fun r => impl_sideNumbers.j0 r s false k p) (M.numsL k p s p.toNat) := by
    intro c
    refine M.Ev_succ ?_
    simp only [impl_sideNumbers.j0, Bool.false_eq_true, if_false, show 0 ≤ p by omega, if_true, show p.toNat ≤ 35184372088832 by omega, Option.bind_some, List.length_replicate]
    exact sideNumbers_loop h hs p.toNat (by omega) p.toNat 0 _ (by omega) (by omega) (by simp) (by simp)
  unfold impl_sideNumbers.f M.numsR
  by_cases ck : k = 0
  · simp only [if_pos ck]
    by_cases cs : s = 1
    · rw [if_pos ⟨cs, ck⟩]
      refine M.Ev_succ (M.Ev_some fun r => ?_)
      simp [impl_sideNumbers.j0, cs]
    · rw [if_neg (fun z => cs z.1), show (s == 1) = false by simpa using cs]
      exact main (fun z => cs z.1)
  · simp only [if_neg ck]
    rw [if_neg (fun z => ck z.2)]
    exact main (fun z => ck z.2)
def sideNumsR (k p s : Int) : List Int × Bool := if M.streetB k p = true ∧ 0 ≤ s ∧ s ≤ 1 then (M.numsR k p s, true) else ([], false)
theorem SideNumbers_ev (k p s : Int) : Ev (fun r => spec_SideNumbers.f r k p s) (sideNumsR k p s) ∧ Ev (fun r => impl_SideNumbers.f r k p s) (sideNumsR k p s) := by
  unfold spec_SideNumbers.f impl_SideNumbers.f sideNumsR
  simp only [spec_nuGood_eq, impl_IsStreet_eq, Option.bind_some]
  by_cases h : M.streetB k p = true
  · simp only [h, if_true, spec_l1In_eq, impl_within_eq, Option.bind_some, true_and]
    by_cases c : 0 ≤ s ∧ s ≤ 1
    · simp only [c, and_self, decide_true, if_true]
      exact ⟨Ev.bind (nuNumbers_ev h c) (M.Ev_some fun k => rfl), Ev.bind (sideNumbers_ev h c) (M.Ev_some fun k => rfl)⟩
    · simp only [c, decide_false, Bool.false_eq_true, if_false]
      exact ⟨M.Ev_some fun r => rfl, M.Ev_some fun r => rfl⟩
  · simp only [h, Bool.false_eq_true, if_false, false_and]
    exact ⟨M.Ev_some fun r => rfl, M.Ev_some fun r => rfl⟩
theorem sideNumsR_len (k p s : Int) : (sideNumsR k p s).1.length ≤ 1000 := by
  unfold sideNumsR
  split
  · rename_i h
    exact M.numsR_len h.1
  · simp
theorem toStreet_eq (n l : Int) : laws_toStreet.f n l = some (n, l) := rfl
theorem eqIntS_loop (l : List Int) (hl : l.length ≤ 1000000000000) : ∀ (d i : Nat), i ≤ l.length → l.length - i = d → Ev (fun k => laws_eqIntS.l0 k l l (i : Int)) true := by
  intro d
  induction d with
  | zero =>
    intro i hi hd
    refine M.Ev_succ (M.Ev_some fun k => ?_)
    simp only [laws_eqIntS.l0]
    rw [if_neg (by omega)]
  | succ d ih =>
    intro i hi hd
    have e : wrap64 ((i : Int) + 1) = ((i + 1 : Nat) : Int) := by rw [M.w64 (by omega) (by omega)]; omega
    refine M.Ev_succ ?_
    simp only [laws_eqIntS.l0, show (i : Int) < (l.length : Int) by omega, show (0 : Int) ≤ (i : Int) by omega, if_true, e]
    exact ih (i + 1) (by omega) (by omega)
theorem eqIntS_ev (l : List Int) (hl : l.length ≤ 1000000000000) : Ev (fun k => laws_eqIntS.f k l l) true := by
  unfold laws_eqIntS.f
  simp only [if_true]
  exact eqIntS_loop l hl l.length 0 (by omega) (by omega)
theorem markIntS_loop (n : Nat) (hn : n ≤ 1000000000000) (m : Int) (hm : 0 ≤ m) (hm2 : m ≤ 1000000000000) : ∀ (d i : Nat) (acc : List Int), i ≤ n → n - i = d → acc.length = n → acc.take i = (M.runI m n).take i →
    Ev (fun k => laws_markIntS.l0 k acc (m + (i : Int)) (i : Int)) (m + (n : Int), M.runI m n) := by
  intro d
  induction d with
  | zero =>
    intro i acc hi hd ha ht
    obtain rfl : i = n := by omega
    refine M.Ev_succ (M.Ev_some fun k => ?_)
    simp only [laws_markIntS.l0]
    rw [if_neg (by omega), M.take_all ha (M.runI_length _ _) ht]
  | succ d ih =>
    intro i acc hi hd ha ht
    have e : wrap64 ((i : Int) + 1) = ((i + 1 : Nat) : Int) := by rw [M.w64 (by omega) (by omega)]; omega
    have e2 : wrap64 (m + (i : Int) + 1) = m + ((i + 1 : Nat) : Int) := by rw [M.w64 (by omega) (by omega)]; omega
    refine M.Ev_succ ?_
    simp only [laws_markIntS.l0, show (i : Int) < (acc.length : Int) by omega, show (0 : Int) ≤ (i : Int) by omega, if_true, e, e2, Int.toNat_natCast]
    refine ih (i + 1) _ (by omega) (by omega) (by rw [List.length_set]; exact ha) ?_
    exact M.take_set_succ (by omega) (by rw [M.runI_length]; omega) ht (by rw [M.runI_get])
theorem markIntS_ev (l : List Int) (hl : l.length ≤ 1000000000000) (m : Int) (hm : 0 ≤ m) (hm2 : m ≤ 1000000000000) : Ev (fun k => laws_markIntS.f k l m) (m + (l.length : Int), M.runI m l.length) := by
  unfold laws_markIntS.f
  have := markIntS_loop l.length hl m hm hm2 l.length 0 l (by omega) (by omega) rfl (by simp)
  simpa using this
theorem heldIntS_loop (n : Nat) (hn : n ≤ 1000000000000) (m : Int) (hm : 0 ≤ m) (hm2 : m ≤ 1000000000000) : ∀ (d i : Nat), i ≤ n → n - i = d → Ev (fun k => laws_heldIntS.l0 k (M.runI m n) (m + (i : Int)) (i : Int)) (m + (n : Int)) := by
  intro d
  induction d with
  | zero =>
    intro i hi hd
    obtain rfl : i = n := by omega
    refine M.Ev_succ (M.Ev_some fun k => ?_)
    simp only [laws_heldIntS.l0]
    rw [if_neg (by rw [M.runI_length]; omega)]
  | succ d ih =>
    intro i hi hd
    have e : wrap64 ((i : Int) + 1) = ((i + 1 : Nat) : Int) := by rw [M.w64 (by omega) (by omega)]; omega
    have e2 : wrap64 (m + (i : Int) + 1) = m + ((i + 1 : Nat) : Int) := by rw [M.w64 (by omega) (by omega)]; omega
    have hr : rd (M.runI m n) (i : Int) = m + (i : Int) := by rw [M.rd_get (by rw [M.runI_length]; omega), M.runI_get]
    refine M.Ev_succ ?_
    simp only [laws_heldIntS.l0, show (i : Int) < ((M.runI m n).length : Int) by rw [M.runI_length]; omega, show (0 : Int) ≤ (i : Int) by omega, if_true, hr, e, e2]
    exact ih (i + 1) (by omega) (by omega)
theorem heldIntS_ev (n : Nat) (hn : n ≤ 1000000000000) (m : Int) (hm : 0 ≤ m) (hm2 : m ≤ 1000000000000) : Ev (fun k => laws_heldIntS.f k (M.runI m n) m) (m + (n : Int)) := by
  unfold laws_heldIntS.f
  have := heldIntS_loop n hn m hm hm2 n 0 (by omega) (by omega)
  simpa using this
def laws_FnExactSideNumbers.Pure : Prop := ∀ (a0_0 a0_1 : Int) (a1 : Int), (Lit.int .i64 a0_0).wf = true → (Lit.int .i64 a0_1).wf = true → (Lit.int .i64 a1).wf = true → ∃ k, laws_FnExactSideNumbers.f k a0_0 a0_1 a1 = some true
theorem FnExactSideNumbers : laws_FnExactSideNumbers.Pure := by
  intro a b c _ _ _
  obtain ⟨h1, h2⟩ := SideNumbers_ev a b c
  have hr : (sideNumsR a b c).1.length ≤ 1000000000000 := by have := sideNumsR_len a b c; omega
  generalize sideNumsR a b c = r at h1 h2 hr
  refine Ev.rounds (r := true) ?_
  unfold laws_FnExactSideNumbers.f
  simp only [toStreet_eq, Option.bind_some]
  refine Ev.bind h1 (Ev.bind h2 (Ev.bind (eqIntS_ev r.1 hr) ?_))
  simp only [if_true, bne_self_eq_false]
  refine M.Ev_succ ?_
  simp only [laws_FnExactSideNumbers.j0, Bool.false_eq_true, if_false]
  refine Ev.bind (markIntS_ev r.1 hr 1 (by omega) (by omega)) (Ev.bind (heldIntS_ev r.1.length hr 1 (by omega) (by omega)) ?_)
  simp only [show ¬ ((1 : Int) + (r.1.length : Int) < 0) by omega, if_false, if_true, toStreet_eq, Option.bind_some]
  refine Ev.bind h2 (Ev.bind (eqIntS_ev r.1 hr) ?_)
  simp only [if_true, bne_self_eq_false]
  refine M.Ev_succ ?_
  simp only [laws_FnExactSideNumbers.j1, Bool.false_eq_true, if_false]
  refine Ev.bind (heldIntS_ev r.1.length hr 1 (by omega) (by omega)) (M.Ev_some fun k => ?_)
  rw [if_neg (by omega), if_pos rfl]

end Go.Proofs.Ytgjgbdpfjohaaaa.Pure
