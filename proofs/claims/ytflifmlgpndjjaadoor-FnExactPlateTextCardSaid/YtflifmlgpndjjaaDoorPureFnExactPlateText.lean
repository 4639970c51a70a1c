/- The program's PlateText and the reference's answer the same for all pairs of 64-bit numbers: no further condition. -/
import Derived.Test.YtflifmlgpndjjaaDoorM
import Derived.Test.YtflifmlgpndjjaaDoorPFnExactPlateTextx2
namespace Go.Proofs.YtflifmlgpndjjaaDoor.Pure
open Go.RowKit Go.Proofs.YtflifmlgpndjjaaDoor.PFnExactPlateText Go.Proofs.YtflifmlgpndjjaaDoorW.PrintWords Go.Proofs.YtflifmlgpndjjaaDoorW.PrintLast Go.Proofs.YtflifmlgpndjjaaDoorW.PrintMore
set_option linter.unusedVariables false
set_option linter.unusedSimpArgs false
theorem spec_l1In_eq (a b c : Int) : spec_l1In.f a b c = some (decide (b ≤ a ∧ a ≤ c)) := by
  unfold spec_l1In.f
  by_cases h : a ≥ b
  · rw [if_pos h]; simp [show b ≤ a from h]
  · rw [if_neg h]; simp [show ¬ b ≤ a from h]
theorem impl_within_eq (a b c : Int) : impl_within.f a b c = some (decide (b ≤ a ∧ a ≤ c)) := by
  unfold impl_within.f
  by_cases h : a ≥ b
  · rw [if_pos h]; simp [show b ≤ a from h]
  · rw [if_neg h]; simp [show ¬ b ≤ a from h]
theorem spec_isPlate_eq (n l : Int) : spec_isPlate.f n l = some (M.plateB n l) := by
  unfold spec_isPlate.f M.plateB
  simp only [spec_l1In_eq, Option.bind_some]
  by_cases h : 1 ≤ n ∧ n ≤ 9999 <;> simp [h]
theorem impl_IsPlate_eq (n l : Int) : impl_IsPlate.f n l = some (M.plateB n l) := by
  unfold impl_IsPlate.f M.plateB
  simp only [impl_within_eq, Option.bind_some]
  by_cases h : 1 ≤ n ∧ n ≤ 9999 <;> simp [h]
theorem toPlate_eq (n l : Int) : laws_toPlate.f n l = some (n, l) := rfl
theorem spec_l1Num_ev : ∀ (n : Nat), n ≤ 9223372036854775807 → Ev (fun k => spec_l1Num.f k (n : Int)) (strOfNums (M.digs n)) := by
  intro n
  induction n using Nat.strongRecOn with
  | ind n ih =>
    intro hn
    by_cases h : n < 10
    · have e2 : (wrap64 (48 + (n : Int))) % 256 = 48 + (n : Int) := by rw [M.w64 (by omega) (by omega)]; omega
      refine M.Ev_succ (M.Ev_some fun k => ?_)
      simp only [spec_l1Num.f]
      rw [if_pos (by omega), M.digs_small h, e2]
    · have e1 : wrap64 (Int.tdiv (n : Int) 10) = ((n / 10 : Nat) : Int) := by
        rw [M.tdiv_pos (by omega), M.w64 (by omega) (by omega)]; omega
      have e2 : (wrap64 (48 + Int.tmod (n : Int) 10)) % 256 = 48 + ((n % 10 : Nat) : Int) := by
        rw [M.tmod_pos (by omega), M.w64 (by omega) (by omega)]; omega
      refine M.Ev_succ ?_
      simp only [spec_l1Num.f, e1, e2, show ¬ ((n : Int) < 10) by omega, if_false]
      refine Ev.bind (ih (n / 10) (by omega) (by omega)) (M.Ev_some fun k => ?_)
      have hs := M.digs_le20 (n := n / 10) (by omega)
      simp only [Option.bind_some]
      rw [if_pos (by rw [strOfNums_size, strOfNums_size]; simp; omega), M.strOfNums_append, M.digs_big h]
theorem decDigits_eq : ∀ (n : Nat), Lib.decDigits n = (M.digs n).map (fun z => UInt8.ofNat z.toNat) := by
  intro n
  induction n using Nat.strongRecOn with
  | ind n ih =>
    by_cases h : n < 10
    · rw [Lib.decDigits, dif_pos h, M.digs_small h]
      simp only [List.map_cons, List.map_nil]
      rw [show (48 + (n : Int)).toNat = 48 + n by omega]
    · rw [Lib.decDigits, dif_neg h, M.digs_big h, ih (n / 10) (by omega)]
      simp only [List.map_append, List.map_cons, List.map_nil]
      rw [show (48 + ((n % 10 : Nat) : Int)).toNat = 48 + n % 10 by omega]
theorem itoa_eq (n : Nat) (h : n ≤ 9223372036854775807) : strconv_Itoa_33.f (n : Int) = some (strOfNums (M.digs n)) := by
  unfold strconv_Itoa_33.f strOfNums Lib.itoa
  rw [if_pos ⟨by omega, by omega⟩, if_neg (by omega), Int.toNat_natCast, decDigits_eq]
def letT (p : Int) : List Int := if p = 0 then [] else [96 + p]
/-- A plate's text: its number, then its letter, if it has one. -/
def ptx (a b : Int) : List Int := M.digs a.toNat ++ letT b
theorem letter_all : ∀ n : Fin 27, n.val ≠ 0 → ((⟨#[97, 98, 99, 100, 101, 102, 103, 104, 105, 106, 107, 108, 109, 110, 111, 112, 113, 114, 115, 116, 117, 118, 119, 120, 121, 122]⟩ : ByteArray).extract (n.val - 1) n.val).data.toList = [UInt8.ofNat (96 + n.val)] := by decide +kernel
theorem isLetterT_eq {p : Int} (h0 : 0 ≤ p) (h : p ≤ 26) : spec_isLetter.f p (⟨#[]⟩ : ByteArray) = some (strOfNums (letT p)) := by
  unfold spec_isLetter.f letT
  by_cases c : p = 0
  · rw [if_pos c, if_pos c]; rfl
  · obtain ⟨n, rfl⟩ := Int.eq_ofNat_of_zero_le h0
    have e : wrap64 ((n : Int) - 1) = ((n - 1 : Nat) : Int) := by rw [M.w64 (by omega) (by omega)]; omega
    rw [if_neg c, if_neg c, e, if_pos (by omega), if_pos (by omega), if_pos (by omega)]
    congr 1
    apply ByteArray.ext
    apply Array.toList_inj.1
    have := letter_all ⟨n, by omega⟩ (by simpa using c)
    simp only [Int.toNat_natCast]
    rw [this]
    simp only [strOfNums, List.map_cons, List.map_nil]
    congr 2
theorem ptx_length {a b : Int} (h : M.plateB a b = true) : (ptx a b).length ≤ 22 := by
  have hp := M.plateB_iff.1 h
  have := M.digs_le20 (n := a.toNat) (by omega)
  unfold ptx letT
  rw [List.length_append]
  split <;> simp <;> omega
theorem isText_ev {a b : Int} (h : M.plateB a b = true) : Ev (fun k => spec_isText.f k a b) (strOfNums (ptx a b)) := by
  have hp := M.plateB_iff.1 h
  obtain ⟨n, rfl⟩ : ∃ n : Nat, a = n := ⟨a.toNat, by omega⟩
  have hl := ptx_length h
  unfold ptx at hl ⊢
  rw [Int.toNat_natCast] at hl ⊢
  unfold spec_isText.f
  refine Ev.bind (spec_l1Num_ev n (by omega)) (M.Ev_some fun k => ?_)
  rw [isLetterT_eq hp.2.2.1 hp.2.2.2]
  simp only [Option.bind_some]
  rw [if_pos (by rw [strOfNums_size, strOfNums_size, ← List.length_append]; omega), M.strOfNums_append]
theorem plateText_eq {a b : Int} (h : M.plateB a b = true) : impl_plateText.f a b = some (strOfNums (ptx a b)) := by
  have hp := M.plateB_iff.1 h
  obtain ⟨n, rfl⟩ : ∃ n : Nat, a = n := ⟨a.toNat, by omega⟩
  have hl := ptx_length h
  unfold ptx letT at hl ⊢
  rw [Int.toNat_natCast] at hl ⊢
  unfold impl_plateText.f
  rw [itoa_eq n (by omega)]
  simp only [Option.bind_some]
  by_cases c : b = 0
  · rw [if_pos c, if_neg (by omega), List.append_nil]
  · rw [if_neg c] at hl
    have w1 : wrap64 (wrap64 (97 + b) - 1) % 256 = 96 + b := by rw [M.w64 (x := 97 + b) (by omega) (by omega), M.w64 (by omega) (by omega)]; omega
    rw [if_neg c, if_pos (by omega), w1, if_pos (by rw [strOfNums_size, strOfNums_size, ← List.length_append]; omega), M.strOfNums_append]
def laws_FnExactPlateText.Pure : Prop := ∀ (a0_0 a0_1 : Int), (Lit.int .i64 a0_0).wf = true → (Lit.int .i64 a0_1).wf = true → ∃ k, laws_FnExactPlateText.f k a0_0 a0_1 = some true
theorem FnExactPlateText : laws_FnExactPlateText.Pure := by
  intro a b _ _
  refine Ev.rounds (r := true) ?_
  unfold laws_FnExactPlateText.f spec_PlateText.f impl_PlateText.f
  simp only [toPlate_eq, Option.bind_some, spec_isPlate_eq, impl_IsPlate_eq]
  cases hb : M.plateB a b with
  | false => exact M.Ev_some fun k => by simp
  | true =>
    simp only [if_true, plateText_eq hb, Option.bind_some]
    refine Ev.bind (a := (strOfNums (ptx a b), true)) (Ev.bind (isText_ev hb) (M.Ev_some fun k => rfl)) (M.Ev_some fun k => ?_)
    simp

end Go.Proofs.YtflifmlgpndjjaaDoor.Pure
