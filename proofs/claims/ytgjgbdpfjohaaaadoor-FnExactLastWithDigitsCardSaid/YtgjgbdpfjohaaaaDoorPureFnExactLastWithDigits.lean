/- The program's LastWithDigits and the reference's answer the same for all 64-bit numbers: no further condition. -/
import Derived.Test.YtgjgbdpfjohaaaaDoorM
import Derived.Test.YtgjgbdpfjohaaaaDoorPFnExactLastWithDigitsx2
namespace Go.Proofs.YtgjgbdpfjohaaaaDoor.Pure
open Go.RowKit Go.Proofs.YtgjgbdpfjohaaaaDoor.PFnExactLastWithDigits Go.Proofs.YtgjgbdpfjohaaaaDoorW.PrintWords Go.Proofs.YtgjgbdpfjohaaaaDoorW.PrintLast Go.Proofs.YtgjgbdpfjohaaaaDoorW.PrintMore
set_option linter.unusedVariables false
set_option linter.unusedSimpArgs false
theorem spec_l1In_eq (a b c : Int) : spec_l1In.f a b c = some (decide (b ≤ a ∧ a ≤ c)) := by
  unfold spec_l1In.f
  by_cases h : a ≥ b
  · rw [if_pos h]; simp [show b ≤ a from h]
  · rw [if_neg h]; simp [show ¬ b ≤ a from h]
theorem impl_within_eq (a b c : Int) : impl_within.f a b c = some (decide (b ≤ a ∧ a ≤ c)) := by
  unfold impl_within.f
  by_cases h : a ≥ b
  · rw [if_pos h]; simp [show b ≤ a from h]
  · rw [if_neg h]; simp [show ¬ b ≤ a from h]
theorem spec_l1Num_ev : ∀ (n : Nat), n ≤ 9223372036854775807 → Ev (fun k => spec_l1Num.f k (n : Int)) (strOfNums (M.digs n)) := by
  intro n
  induction n using Nat.strongRecOn with
  | ind n ih =>
    intro hn
    by_cases h : n < 10
    · have e2 : (wrap64 (48 + (n : Int))) % 256 = 48 + (n : Int) := by rw [M.w64 (by omega) (by omega)]; omega
      refine M.Ev_succ (M.Ev_some fun k => ?_)
      simp only [spec_l1Num.f]
      rw [if_pos (by omega), M.digs_small h, e2]
    · have e1 : wrap64 (Int.tdiv (n : Int) 10) = ((n / 10 : Nat) : Int) := by
        rw [M.tdiv_pos (by omega), M.w64 (by omega) (by omega)]; omega
      have e2 : (wrap64 (48 + Int.tmod (n : Int) 10)) % 256 = 48 + ((n % 10 : Nat) : Int) := by
        rw [M.tmod_pos (by omega), M.w64 (by omega) (by omega)]; omega
      refine M.Ev_succ ?_
      simp only [spec_l1Num.f, e1, e2, show ¬ ((n : Int) < 10) by omega, if_false]
      refine Ev.bind (ih (n / 10) (by omega) (by omega)) (M.Ev_some fun k => ?_)
      have hs := M.digs_le20 (n := n / 10) (by omega)
      simp only [Option.bind_some]
      rw [if_pos (by rw [strOfNums_size, strOfNums_size]; simp; omega), M.strOfNums_append, M.digs_big h]
theorem decDigits_eq : ∀ (n : Nat), Lib.decDigits n = (M.digs n).map (fun z => UInt8.ofNat z.toNat) := by
  intro n
  induction n using Nat.strongRecOn with
  | ind n ih =>
    by_cases h : n < 10
    · rw [Lib.decDigits, dif_pos h, M.digs_small h]
      simp only [List.map_cons, List.map_nil]
      rw [show (48 + (n : Int)).toNat = 48 + n by omega]
    · rw [Lib.decDigits, dif_neg h, M.digs_big h, ih (n / 10) (by omega)]
      simp only [List.map_append, List.map_cons, List.map_nil]
      rw [show (48 + ((n % 10 : Nat) : Int)).toNat = 48 + n % 10 by omega]
theorem itoa_eq (n : Nat) (h : n ≤ 9223372036854775807) : strconv_Itoa_9.f (n : Int) = some (strOfNums (M.digs n)) := by
  unfold strconv_Itoa_9.f strOfNums Lib.itoa
  rw [if_pos ⟨by omega, by omega⟩, if_neg (by omega), Int.toNat_natCast, decDigits_eq]
def laws_FnExactLastWithDigits.Pure : Prop := ∀ (a0 : Int), (Lit.int .i64 a0).wf = true → ∃ k, laws_FnExactLastWithDigits.f k a0 = some true
def dlen (n : Nat) : Nat := (M.digs n).length
theorem dlen_pos (n : Nat) : 1 ≤ dlen n := by
  unfold dlen
  by_cases h : n < 10
  · rw [M.digs_small h]; simp
  · rw [M.digs_big h]; simp
theorem nuLong_ev (n : Nat) (h : n ≤ 9223372036854775807) : Ev (fun k => spec_nuLong.f k (n : Int)) ((dlen n : Nat) : Int) := by
  unfold spec_nuLong.f
  refine Ev.bind (spec_l1Num_ev n h) (M.Ev_some fun k => ?_)
  rw [strOfNums_size]
  rfl
theorem itoa_size (n : Nat) (h : n ≤ 9223372036854775807) : ∃ t, strconv_Itoa_9.f (n : Int) = some t ∧ (t.size : Int) = ((dlen n : Nat) : Int) := ⟨_, itoa_eq n h, by rw [strOfNums_size]; rfl⟩
theorem loops : ∀ (d last : Nat), last + d ≤ 2000000 → ∃ r : Int × Bool, Ev (fun k => spec_LastWithDigits.l0 k (d : Int) (last : Int)) r ∧ Ev (fun k => impl_LastWithDigits.l0 k (d : Int) (last : Int) ((dlen (last + 1) : Nat) : Int)) r := by
  intro d
  induction d using Nat.strongRecOn with
  | ind d ih =>
    intro last hl
    have e1 : wrap64 ((last : Int) + 1) = ((last + 1 : Nat) : Int) := by rw [M.w64 (by omega) (by omega)]; omega
    have e2 : wrap64 (((last + 1 : Nat) : Int) + 1) = ((last + 2 : Nat) : Int) := by rw [M.w64 (by omega) (by omega)]; omega
    have hn := nuLong_ev (last + 1) (by omega)
    have hp := dlen_pos (last + 1)
    obtain ⟨t, ht, hs⟩ := itoa_size (last + 2) (by omega)
    by_cases c : dlen (last + 1) ≤ d
    · have e3 : wrap64 ((d : Int) - ((dlen (last + 1) : Nat) : Int)) = ((d - dlen (last + 1) : Nat) : Int) := by rw [M.w64 (by omega) (by omega)]; omega
      obtain ⟨r, h1, h2⟩ := ih (d - dlen (last + 1)) (by omega) (last + 1) (by omega)
      refine ⟨r, M.Ev_succ ?_, M.Ev_succ ?_⟩
      · simp only [spec_LastWithDigits.l0, e1]
        refine Ev.bind hn ?_
        simp only [show (d : Int) ≥ ((dlen (last + 1) : Nat) : Int) by omega, if_true]
        refine Ev.bind hn ?_
        simp only [e3]
        exact h1
      · simp only [impl_LastWithDigits.l0, e1, e2, e3, ht, show ((dlen (last + 1) : Nat) : Int) ≤ (d : Int) by omega, if_true, Option.bind_some, hs]
        exact h2
    · refine ⟨((last : Int), true), M.Ev_succ ?_, M.Ev_succ ?_⟩
      · simp only [spec_LastWithDigits.l0, e1]
        refine Ev.bind hn ?_
        simp only [show ¬ ((d : Int) ≥ ((dlen (last + 1) : Nat) : Int)) by omega, if_false]
        exact M.Ev_some fun k => rfl
      · simp only [impl_LastWithDigits.l0, show ¬ (((dlen (last + 1) : Nat) : Int) ≤ (d : Int)) by omega, if_false]
        exact M.Ev_some fun k => rfl
theorem FnExactLastWithDigits : laws_FnExactLastWithDigits.Pure := by
  intro a _
  refine Ev.rounds (r := true) ?_
  unfold laws_FnExactLastWithDigits.f spec_LastWithDigits.f impl_LastWithDigits.f
  simp only [spec_l1In_eq, impl_within_eq, Option.bind_some]
  by_cases c : 0 ≤ a ∧ a ≤ 1000000
  · obtain ⟨d, rfl⟩ : ∃ d : Nat, a = d := ⟨a.toNat, by omega⟩
    obtain ⟨r, h1, h2⟩ := loops d 0 (by omega)
    obtain ⟨t, ht, hs⟩ := itoa_size 1 (by omega)
    simp only [decide_eq_true c, if_true, show ((0 : Int) + 1) = ((1 : Nat) : Int) from rfl, ht, Option.bind_some, hs]
    refine Ev.bind h1 (Ev.bind h2 (M.Ev_some fun k => ?_))
    simp
  · simp only [decide_eq_false c, Bool.false_eq_true, if_false, Option.bind_some]
    exact M.Ev_some fun k => by simp

end Go.Proofs.YtgjgbdpfjohaaaaDoor.Pure
