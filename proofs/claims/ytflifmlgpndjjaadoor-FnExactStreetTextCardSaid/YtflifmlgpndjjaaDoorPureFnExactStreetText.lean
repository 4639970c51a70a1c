/- The program's StreetText and the reference's answer the same for all pairs of 64-bit numbers: no further condition. -/
import Derived.Test.YtflifmlgpndjjaaDoorM
import Derived.Test.YtflifmlgpndjjaaDoorPFnExactStreetTextx2
namespace Go.Proofs.YtflifmlgpndjjaaDoor.Pure
open Go.RowKit Go.Proofs.YtflifmlgpndjjaaDoor.PFnExactStreetText Go.Proofs.YtflifmlgpndjjaaDoorW.PrintWords Go.Proofs.YtflifmlgpndjjaaDoorW.PrintLast Go.Proofs.YtflifmlgpndjjaaDoorW.PrintMore
set_option linter.unusedVariables false
set_option linter.unusedSimpArgs false
theorem spec_l1In_eq (a b c : Int) : spec_l1In.f a b c = some (decide (b ≤ a ∧ a ≤ c)) := by
  unfold spec_l1In.f
  by_cases h : a ≥ b
  · rw [if_pos h]; simp [show b ≤ a from h]
  · rw [if_neg h]; simp [show ¬ b ≤ a from h]
theorem impl_within_eq (a b c : Int) : impl_within.f a b c = some (decide (b ≤ a ∧ a ≤ c)) := by
  unfold impl_within.f
  by_cases h : a ≥ b
  · rw [if_pos h]; simp [show b ≤ a from h]
  · rw [if_neg h]; simp [show ¬ b ≤ a from h]
theorem spec_nuGood_eq (k p : Int) : spec_nuGood.f k p = some (M.streetB k p) := by
  unfold spec_nuGood.f M.streetB
  simp only [spec_l1In_eq, Option.bind_some]
  by_cases h : 0 ≤ k ∧ k ≤ 2 <;> simp [h]
theorem impl_IsStreet_eq (k p : Int) : impl_IsStreet.f k p = some (M.streetB k p) := by
  unfold impl_IsStreet.f M.streetB
  simp only [impl_within_eq, Option.bind_some]
  by_cases h : 0 ≤ k ∧ k ≤ 2 <;> simp [h]
theorem toStreet_eq (n l : Int) : laws_toStreet.f n l = some (n, l) := rfl
theorem spec_l1Num_ev : ∀ (n : Nat), n ≤ 9223372036854775807 → Ev (fun k => spec_l1Num.f k (n : Int)) (strOfNums (M.digs n)) := by
  intro n
  induction n using Nat.strongRecOn with
  | ind n ih =>
    intro hn
    by_cases h : n < 10
    · have e2 : (wrap64 (48 + (n : Int))) % 256 = 48 + (n : Int) := by rw [M.w64 (by omega) (by omega)]; omega
      refine M.Ev_succ (M.Ev_some fun k => ?_)
      simp only [spec_l1Num.f]
      rw [if_pos (by omega), M.digs_small h, e2]
    · have e1 : wrap64 (Int.tdiv (n : Int) 10) = ((n / 10 : Nat) : Int) := by
        rw [M.tdiv_pos (by omega), M.w64 (by omega) (by omega)]; omega
      have e2 : (wrap64 (48 + Int.tmod (n : Int) 10)) % 256 = 48 + ((n % 10 : Nat) : Int) := by
        rw [M.tmod_pos (by omega), M.w64 (by omega) (by omega)]; omega
      refine M.Ev_succ ?_
      simp only [spec_l1Num.f, e1, e2, show ¬ ((n : Int) < 10) by omega, if_false]
      refine Ev.bind (ih (n / 10) (by omega) (by omega)) (M.Ev_some fun k => ?_)
      have hs := M.digs_le20 (n := n / 10) (by omega)
      simp only [Option.bind_some]
      rw [if_pos (by rw [strOfNums_size, strOfNums_size]; simp; omega), M.strOfNums_append, M.digs_big h]
theorem decDigits_eq : ∀ (n : Nat), Lib.decDigits n = (M.digs n).map (fun z => UInt8.ofNat z.toNat) := by
  intro n
  induction n using Nat.strongRecOn with
  | ind n ih =>
    by_cases h : n < 10
    · rw [Lib.decDigits, dif_pos h, M.digs_small h]
      simp only [List.map_cons, List.map_nil]
      rw [show (48 + (n : Int)).toNat = 48 + n by omega]
    · rw [Lib.decDigits, dif_neg h, M.digs_big h, ih (n / 10) (by omega)]
      simp only [List.map_append, List.map_cons, List.map_nil]
      rw [show (48 + ((n % 10 : Nat) : Int)).toNat = 48 + n % 10 by omega]
theorem itoa_eq (n : Nat) (h : n ≤ 9223372036854775807) : strconv_Itoa_33.f (n : Int) = some (strOfNums (M.digs n)) := by
  unfold strconv_Itoa_33.f strOfNums Lib.itoa
  rw [if_pos ⟨by omega, by omega⟩, if_neg (by omega), Int.toNat_natCast, decDigits_eq]
def laws_FnExactStreetText.Pure : Prop := ∀ (a0_0 a0_1 : Int), (Lit.int .i64 a0_0).wf = true → (Lit.int .i64 a0_1).wf = true → ∃ k, laws_FnExactStreetText.f k a0_0 a0_1 = some true
theorem FnExactStreetText : laws_FnExactStreetText.Pure := by
  intro a b _ _
  refine Ev.rounds (r := true) ?_
  unfold laws_FnExactStreetText.f spec_StreetText.f impl_StreetText.f
  simp only [toStreet_eq, Option.bind_some, spec_nuGood_eq, impl_IsStreet_eq]
  cases hb : M.streetB a b with
  | false => exact M.Ev_some fun k => by simp
  | true =>
    have h := M.streetB_iff.1 hb
    obtain ⟨n, rfl⟩ : ∃ n : Nat, b = n := ⟨b.toNat, by omega⟩
    have e1 : wrap64 (a + 1) = a + 1 := M.w64 (by omega) (by omega)
    have hs := M.digs_le20 (n := n) (by omega)
    simp only [if_true, itoa_eq n (by omega), Option.bind_some, e1, show (0 : Int) ≤ a by omega, show a ≤ a + 1 by omega, show a + 1 ≤ 3 by omega]
    have hx : ((⟨#[114, 111, 117]⟩ : ByteArray).extract a.toNat (a + 1).toNat).size ≤ 3 := by
      rw [ByteArray.size_extract, show (⟨#[114, 111, 117]⟩ : ByteArray).size = 3 from rfl]; omega
    unfold spec_nuText.f
    simp only [e1, show (0 : Int) ≤ a by omega, show a ≤ a + 1 by omega, show a + 1 ≤ 3 by omega, if_true]
    generalize ((⟨#[114, 111, 117]⟩ : ByteArray).extract a.toNat (a + 1).toNat) = x at hx
    have hc : x.size + (strOfNums (M.digs n)).size ≤ 9223372036854775807 := by rw [strOfNums_size]; omega
    refine Ev.bind (a := (x ++ strOfNums (M.digs n), true)) (Ev.bind (a := x ++ strOfNums (M.digs n)) (Ev.bind (spec_l1Num_ev n (by omega)) (M.Ev_some fun k => by rw [if_pos hc])) (M.Ev_some fun k => rfl)) (M.Ev_some fun k => ?_)
    rw [if_pos hc]
    simp

end Go.Proofs.YtflifmlgpndjjaaDoor.Pure
