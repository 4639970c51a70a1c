/- The program's LettersOf and the reference's answer the same for all lists and numbers, and the argument stays as it was: no further condition. -/
import Derived.Test.YtgjgbdpfjohaaaaM
import Derived.Test.YtgjgbdpfjohaaaaPFnExactLettersOfx5
namespace Go.Proofs.Ytgjgbdpfjohaaaa.Pure
open Go.RowKit Go.Proofs.Ytgjgbdpfjohaaaa.PFnExactLettersOf Go.Proofs.YtgjgbdpfjohaaaaW.PrintWords Go.Proofs.YtgjgbdpfjohaaaaW.PrintLast Go.Proofs.YtgjgbdpfjohaaaaW.PrintMore
set_option linter.unusedVariables false
set_option linter.unusedSimpArgs false
theorem spec_l1In_eq (a b c : Int) : spec_l1In.f a b c = some (decide (b ≤ a ∧ a ≤ c)) := by
  unfold spec_l1In.f
  by_cases h : a ≥ b
  · rw [if_pos h]; simp [show b ≤ a from h]
  · rw [if_neg h]; simp [show ¬ b ≤ a from h]
theorem impl_within_eq (a b c : Int) : impl_within.f a b c = some (decide (b ≤ a ∧ a ≤ c)) := by
  unfold impl_within.f
  by_cases h : a ≥ b
  · rw [if_pos h]; simp [show b ≤ a from h]
  · rw [if_neg h]; simp [show ¬ b ≤ a from h]
theorem spec_isPlate_eq (n l : Int) : spec_isPlate.f n l = some (M.plateB n l) := by
  unfold spec_isPlate.f M.plateB
  simp only [spec_l1In_eq, Option.bind_some]
  by_cases h : 1 ≤ n ∧ n ≤ 9999 <;> simp [h]
theorem impl_IsPlate_eq (n l : Int) : impl_IsPlate.f n l = some (M.plateB n l) := by
  unfold impl_IsPlate.f M.plateB
  simp only [impl_within_eq, Option.bind_some]
  by_cases h : 1 ≤ n ∧ n ≤ 9999 <;> simp [h]
theorem spec_isRank_eq {n l : Int} (h : M.plateB n l = true) : spec_isRank.f n l = some (M.rank n l) := by
  have h' := M.plateB_iff.1 h
  unfold spec_isRank.f M.rank
  rw [M.w64 (x := 27 * n) (by omega) (by omega), M.w64 (by omega) (by omega), Int.mul_comm]
theorem impl_rankOf_eq {n l : Int} (h : M.plateB n l = true) : impl_rankOf.f n l = some (M.rank n l) := by
  have h' := M.plateB_iff.1 h
  unfold impl_rankOf.f M.rank
  rw [M.w64 (x := n * 27) (by omega) (by omega), M.w64 (by omega) (by omega)]
def pn (l : List S43) (i : Nat) : Int := (rd_T43 l (i : Int)).f0
def pl (l : List S43) (i : Nat) : Int := (rd_T43 l (i : Int)).f1
def prk (l : List S43) (i : Nat) : Int := M.rank (pn l i) (pl l i)
/-- Plates: 1 to 60 of them, each a plate, one behind the other. -/
def Good (l : List S43) : Prop := 1 ≤ l.length ∧ l.length ≤ 60 ∧ (∀ i, i < l.length → M.plateB (pn l i) (pl l i) = true) ∧ ∀ i, i + 1 < l.length → prk l i < prk l (i + 1)
noncomputable instance goodDec (l : List S43) : Decidable (Good l) := Classical.propDecidable _
theorem good_loops (l : List S43) (hl : l.length ≤ 9000000000000000000) : ∀ (d i : Nat), i ≤ l.length → l.length - i = d → (0 < i → M.plateB (pn l (i - 1)) (pl l (i - 1)) = true) →
    ∃ b : Bool, Ev (fun k => spec_isGood.l0 k l l (l.length : Int) (i : Int)) b ∧ Ev (fun k => impl_ArePlates.l0 k l l (l.length : Int) (i : Int)) (b && decide (1 ≤ l.length ∧ l.length ≤ 60)) ∧
      (b = true ↔ (∀ j, i ≤ j → j < l.length → M.plateB (pn l j) (pl l j) = true) ∧ ∀ j, i ≤ j + 1 → j + 1 < l.length → prk l j < prk l (j + 1)) := by
  intro d
  induction d with
  | zero =>
    intro i hi hd hp
    refine ⟨true, M.Ev_succ (M.Ev_some fun k => ?_), M.Ev_succ (M.Ev_some fun k => ?_), ?_⟩
    · simp only [spec_isGood.l0]; rw [if_neg (by omega)]
    · simp only [impl_ArePlates.l0]
      rw [if_neg (by omega), impl_within_eq]
      simp only [Option.bind_some, Bool.true_and, Option.some.injEq, decide_eq_decide]
      omega
    · simp only [true_iff]
      exact ⟨fun j a b => by omega, fun j a b => by omega⟩
  | succ d ih =>
    intro i hi hd hp
    have e : wrap64 ((i : Int) + 1) = ((i + 1 : Nat) : Int) := by rw [M.w64 (by omega) (by omega)]; omega
    have sp : spec_isPlate.f ((rd_T43 l (i : Int)).f0) ((rd_T43 l (i : Int)).f1) = some (M.plateB (pn l i) (pl l i)) := spec_isPlate_eq _ _
    have ip : impl_IsPlate.f ((rd_T43 l (i : Int)).f0) ((rd_T43 l (i : Int)).f1) = some (M.plateB (pn l i) (pl l i)) := impl_IsPlate_eq _ _
    by_cases hc : M.plateB (pn l i) (pl l i) = true
    · have sr : spec_isRank.f ((rd_T43 l (i : Int)).f0) ((rd_T43 l (i : Int)).f1) = some (prk l i) := spec_isRank_eq hc
      have ir : impl_rankOf.f ((rd_T43 l (i : Int)).f0) ((rd_T43 l (i : Int)).f1) = some (prk l i) := impl_rankOf_eq hc
      obtain ⟨b, h1, h2, h3⟩ := ih (i + 1) (by omega) (by omega) (fun _ => by simpa using hc)
      by_cases h0 : i = 0
      · subst h0
        refine ⟨b, M.Ev_succ ?_, M.Ev_succ ?_, ?_⟩
        · simp only [spec_isGood.l0, show ((0 : Nat) : Int) < (l.length : Int) by omega, show (0 : Int) ≤ ((0 : Nat) : Int) by omega, if_true, sp, hc, Option.bind_some, show ¬ (((0 : Nat) : Int) > 0) by omega, if_false, e]
          exact h1
        · simp only [impl_ArePlates.l0, show ((0 : Nat) : Int) < (l.length : Int) by omega, show (0 : Int) ≤ ((0 : Nat) : Int) by omega, if_true, ip, hc, Option.bind_some, show ¬ (((0 : Nat) : Int) > 0) by omega, if_false, e]
          exact h2
        · rw [h3]
          constructor
          · rintro ⟨x, y⟩
            refine ⟨fun j a b => ?_, fun j a b => y j (by omega) b⟩
            by_cases q : j = 0
            · rw [q]; exact hc
            · exact x j (by omega) b
          · rintro ⟨x, y⟩
            exact ⟨fun j a b => x j (by omega) b, fun j a b => y j (by omega) b⟩
      · have hq := hp (by omega)
        have em : wrap64 ((i : Int) - 1) = ((i - 1 : Nat) : Int) := by rw [M.w64 (by omega) (by omega)]; omega
        have sm : spec_isRank.f ((rd_T43 l ((i - 1 : Nat) : Int)).f0) ((rd_T43 l ((i - 1 : Nat) : Int)).f1) = some (prk l (i - 1)) := spec_isRank_eq hq
        have im : impl_rankOf.f ((rd_T43 l ((i - 1 : Nat) : Int)).f0) ((rd_T43 l ((i - 1 : Nat) : Int)).f1) = some (prk l (i - 1)) := impl_rankOf_eq hq
        have ei : i - 1 + 1 = i := by omega
        by_cases hr : prk l (i - 1) < prk l i
        · refine ⟨b, M.Ev_succ ?_, M.Ev_succ ?_, ?_⟩
          · simp only [spec_isGood.l0, show (i : Int) < (l.length : Int) by omega, show (0 : Int) ≤ (i : Int) by omega, if_true, sp, hc, Option.bind_some, show ((i : Int) > 0) by omega, e, em, show (0 : Int) ≤ ((i - 1 : Nat) : Int) by omega, show ((i - 1 : Nat) : Int) < (l.length : Int) by omega, sm, sr, show ¬ (prk l (i - 1) ≥ prk l i) by omega, if_false]
            exact h1
          · simp only [impl_ArePlates.l0, show (i : Int) < (l.length : Int) by omega, show (0 : Int) ≤ (i : Int) by omega, if_true, ip, hc, Option.bind_some, show ((i : Int) > 0) by omega, e, em, show (0 : Int) ≤ ((i - 1 : Nat) : Int) by omega, show ((i - 1 : Nat) : Int) < (l.length : Int) by omega, im, ir, show ¬ (prk l (i - 1) ≥ prk l i) by omega, if_false]
            exact h2
          · rw [h3]
            constructor
            · rintro ⟨x, y⟩
              refine ⟨fun j a b => ?_, fun j a b => ?_⟩
              · by_cases q : j = i
                · rw [q]; exact hc
                · exact x j (by omega) b
              · by_cases q : j + 1 = i
                · have : j = i - 1 := by omega
                  rw [this, ei]; exact hr
                · exact y j (by omega) b
            · rintro ⟨x, y⟩
              exact ⟨fun j a b => x j (by omega) b, fun j a b => y j (by omega) b⟩
        · refine ⟨false, M.Ev_succ (M.Ev_some fun k => ?_), M.Ev_succ (M.Ev_some fun k => ?_), ?_⟩
          · simp only [spec_isGood.l0, show (i : Int) < (l.length : Int) by omega, show (0 : Int) ≤ (i : Int) by omega, if_true, sp, hc, Option.bind_some, show ((i : Int) > 0) by omega, e, em, show (0 : Int) ≤ ((i - 1 : Nat) : Int) by omega, show ((i - 1 : Nat) : Int) < (l.length : Int) by omega, sm, sr, show (prk l (i - 1) ≥ prk l i) by omega]
          · simp only [impl_ArePlates.l0, show (i : Int) < (l.length : Int) by omega, show (0 : Int) ≤ (i : Int) by omega, if_true, ip, hc, Option.bind_some, show ((i : Int) > 0) by omega, e, em, show (0 : Int) ≤ ((i - 1 : Nat) : Int) by omega, show ((i - 1 : Nat) : Int) < (l.length : Int) by omega, im, ir, show (prk l (i - 1) ≥ prk l i) by omega, Bool.false_and]
          · simp only [Bool.false_eq_true, false_iff]
            rintro ⟨x, y⟩
            have := y (i - 1) (by omega) (by omega)
            rw [ei] at this
            exact hr this
    · refine ⟨false, M.Ev_succ (M.Ev_some fun k => ?_), M.Ev_succ (M.Ev_some fun k => ?_), ?_⟩
      · simp only [spec_isGood.l0, show (i : Int) < (l.length : Int) by omega, show (0 : Int) ≤ (i : Int) by omega, if_true, sp, hc, Option.bind_some, Bool.false_eq_true, if_false]
      · simp only [impl_ArePlates.l0, show (i : Int) < (l.length : Int) by omega, show (0 : Int) ≤ (i : Int) by omega, if_true, ip, hc, Option.bind_some, Bool.false_eq_true, if_false, Bool.false_and]
      · simp only [Bool.false_eq_true, false_iff]
        rintro ⟨x, _⟩
        exact hc (x i (by omega) (by omega))
theorem good_both (l : List S43) (hl : l.length ≤ 9000000000000000000) : ∃ b : Bool, Ev (fun k => spec_isGood.f k l) b ∧ Ev (fun k => impl_ArePlates.f k l) b ∧ (b = true ↔ Good l) := by
  obtain ⟨b, h1, h2, h3⟩ := good_loops l hl l.length 0 (by omega) (by omega) (fun h => by omega)
  refine ⟨b && decide (1 ≤ l.length ∧ l.length ≤ 60), ?_, ?_, ?_⟩
  · unfold spec_isGood.f
    rw [spec_l1In_eq]
    simp only [Option.bind_some]
    by_cases c : 1 ≤ l.length ∧ l.length ≤ 60
    · have c' : (1 : Int) ≤ (l.length : Int) ∧ (l.length : Int) ≤ 60 := by omega
      simp only [c, c', and_self, decide_true, if_true, Bool.and_true]
      exact h1
    · have c' : ¬ ((1 : Int) ≤ (l.length : Int) ∧ (l.length : Int) ≤ 60) := by omega
      simp only [c, c', decide_false, Bool.and_false]
      exact M.Ev_some fun k => by simp
  · unfold impl_ArePlates.f; exact h2
  · unfold Good
    simp only [Bool.and_eq_true, decide_eq_true_eq, h3]
    constructor
    · rintro ⟨⟨x, y⟩, a, b⟩
      exact ⟨a, b, fun i h => x i (by omega) h, fun i h => y i (by omega) h⟩
    · rintro ⟨a, b, x, y⟩
      exact ⟨⟨fun i _ h => x i h, fun i _ h => y i h⟩, a, b⟩
def letB (p : Int) : Int := if p = 0 then 45 else 96 + p
def letUp (l : List S43) (n : Int) : Nat → List Int
  | 0 => []
  | i + 1 => letUp l n i ++ (if pn l i = n then [letB (pl l i)] else [])
theorem letUp_len (l : List S43) (n : Int) : ∀ i, (letUp l n i).length ≤ i
  | 0 => by simp [letUp]
  | i + 1 => by
    have := letUp_len l n i
    simp only [letUp, List.length_append]
    split <;> simp <;> omega
theorem letter_all : ∀ n : Fin 27, n.val ≠ 0 → ((⟨#[97, 98, 99, 100, 101, 102, 103, 104, 105, 106, 107, 108, 109, 110, 111, 112, 113, 114, 115, 116, 117, 118, 119, 120, 121, 122]⟩ : ByteArray).extract (n.val - 1) n.val).data.toList = [UInt8.ofNat (96 + n.val)] := by decide +kernel
theorem isLetter_eq {p : Int} (h0 : 0 ≤ p) (h : p ≤ 26) : spec_isLetter.f p (⟨#[45]⟩ : ByteArray) = some (strOfNums [letB p]) := by
  unfold spec_isLetter.f letB
  by_cases c : p = 0
  · rw [if_pos c, if_pos c]; rfl
  · obtain ⟨n, rfl⟩ := Int.eq_ofNat_of_zero_le h0
    have e : wrap64 ((n : Int) - 1) = ((n - 1 : Nat) : Int) := by rw [M.w64 (by omega) (by omega)]; omega
    rw [if_neg c, if_neg c, e, if_pos (by omega), if_pos (by omega), if_pos (by omega)]
    congr 1
    apply ByteArray.ext
    apply Array.toList_inj.1
    have := letter_all ⟨n, by omega⟩ (by simpa using c)
    simp only [Int.toNat_natCast]
    rw [this]
    simp only [strOfNums, List.map_cons, List.map_nil]
    congr 2
noncomputable def letR (l : List S43) (n : Int) : ByteArray × Bool := if Good l ∧ 1 ≤ n ∧ n ≤ 9999 then (strOfNums (letUp l n l.length), true) else (⟨#[]⟩, false)
theorem let_loop (l : List S43) (hg : Good l) (n : Int) : ∀ (d i : Nat), i ≤ l.length → l.length - i = d →
    Ev (fun k => spec_LettersOf.l0 k n (strOfNums (letUp l n i)) l (l.length : Int) (i : Int)) (strOfNums (letUp l n l.length), true) ∧ Ev (fun k => impl_LettersOf.l0 k n (letUp l n i) l (l.length : Int) (i : Int)) (strOfNums (letUp l n l.length), true) := by
  have hl60 := hg.2.1
  intro d
  induction d with
  | zero =>
    intro i hi hd
    obtain rfl : i = l.length := by omega
    refine ⟨M.Ev_succ (M.Ev_some fun k => ?_), M.Ev_succ (M.Ev_some fun k => ?_)⟩
    · simp only [spec_LettersOf.l0]; rw [if_neg (by omega)]
    · simp only [impl_LettersOf.l0]; rw [if_neg (by omega)]
  | succ d ih =>
    intro i hi hd
    obtain ⟨h1, h2⟩ := ih (i + 1) (by omega) (by omega)
    have p1 := M.plateB_iff.1 (hg.2.2.1 i (by omega))
    have hlen := letUp_len l n i
    have e : wrap64 ((i : Int) + 1) = ((i + 1 : Nat) : Int) := by rw [M.w64 (by omega) (by omega)]; omega
    have f0 : (rd_T43 l (i : Int)).f0 = pn l i := rfl
    have f1 : (rd_T43 l (i : Int)).f1 = pl l i := rfl
    by_cases c : pn l i = n
    · simp only [letUp, c, if_true] at h1 h2
      refine ⟨M.Ev_succ ?_, M.Ev_succ ?_⟩
      · simp only [spec_LettersOf.l0, show (i : Int) < (l.length : Int) by omega, show (0 : Int) ≤ (i : Int) by omega, if_true, f0, f1, c, isLetter_eq p1.2.2.1 p1.2.2.2, Option.bind_some, strOfNums_size, M.strOfNums_append, e]
        have hs : (letUp l n i).length + [letB (pl l i)].length ≤ 9223372036854775807 := by simp; omega
        simp only [hs, if_true]
        exact h1
      · simp only [impl_LettersOf.l0, show (i : Int) < (l.length : Int) by omega, show (0 : Int) ≤ (i : Int) by omega, if_true, f0, f1, c, show (letUp l n i).length < 140737488355328 by omega, e]
        by_cases z : pl l i = 0
        · simp only [z, if_true]
          rw [z] at h2
          exact h2
        · simp only [z, if_false]
          have w1 : wrap64 (wrap64 (97 + pl l i) - 1) % 256 = letB (pl l i) := by
            unfold letB
            rw [if_neg z, M.w64 (x := 97 + pl l i) (by omega) (by omega), M.w64 (by omega) (by omega)]; omega
          rw [w1]
          exact h2
    · simp only [letUp, c, if_false, List.append_nil] at h1 h2
      refine ⟨M.Ev_succ ?_, M.Ev_succ ?_⟩
      · simp only [spec_LettersOf.l0, show (i : Int) < (l.length : Int) by omega, show (0 : Int) ≤ (i : Int) by omega, if_true, f0, c, if_false, e]
        exact h1
      · simp only [impl_LettersOf.l0, show (i : Int) < (l.length : Int) by omega, show (0 : Int) ≤ (i : Int) by omega, if_true, f0, c, if_false, e]
        exact h2
theorem Letters_ev (l : List S43) (n : Int) (hl : l.length ≤ 1000000000000) : Ev (fun k => spec_LettersOf.f k l n) (letR l n) ∧ Ev (fun k => impl_LettersOf.f k l n) (letR l n) := by
  obtain ⟨b, h1, h2, h3⟩ := good_both l (by omega)
  unfold spec_LettersOf.f impl_LettersOf.f
  cases b with
  | false =>
    have hg : ¬ Good l := fun z => by simpa using h3.2 z
    have e : letR l n = (⟨#[]⟩, false) := by unfold letR; rw [if_neg (fun z => hg z.1)]
    rw [e]
    exact ⟨Ev.bind h1 (M.Ev_succ (M.Ev_some fun k => by simp [spec_LettersOf.j0])), Ev.bind h2 (M.Ev_succ (M.Ev_some fun k => by simp [impl_LettersOf.j0]))⟩
  | true =>
    have hg : Good l := h3.1 rfl
    by_cases c : 1 ≤ n ∧ n ≤ 9999
    · have e : letR l n = (strOfNums (letUp l n l.length), true) := by unfold letR; rw [if_pos ⟨hg, c⟩]
      rw [e]
      obtain ⟨g1, g2⟩ := let_loop l hg n l.length 0 (by omega) (by omega)
      refine ⟨Ev.bind h1 ?_, Ev.bind h2 ?_⟩
      · simp only [if_true, spec_l1In_eq, Option.bind_some, c, and_self, decide_true, Bool.not_true]
        refine M.Ev_succ ?_
        simp only [spec_LettersOf.j0, Bool.false_eq_true, if_false]
        exact g1
      · simp only [if_true, impl_within_eq, Option.bind_some, c, and_self, decide_true, Bool.not_true]
        refine M.Ev_succ ?_
        simp only [impl_LettersOf.j0, Bool.false_eq_true, if_false]
        exact g2
    · have e : letR l n = (⟨#[]⟩, false) := by unfold letR; rw [if_neg (fun z => c z.2)]
      rw [e]
      refine ⟨Ev.bind h1 ?_, Ev.bind h2 ?_⟩
      · simp only [if_true, spec_l1In_eq, Option.bind_some, c, decide_false, Bool.not_false]
        exact M.Ev_succ (M.Ev_some fun k => by simp [spec_LettersOf.j0])
      · simp only [if_true, impl_within_eq, Option.bind_some, c, decide_false, Bool.not_false]
        exact M.Ev_succ (M.Ev_some fun k => by simp [impl_LettersOf.j0])
theorem toPlate_eq (n l : Int) : laws_toPlate.f n l = some (n, l) := rfl
def conv (l : List S41) : List S43 := l.map fun p => ⟨p.f0, p.f1⟩
theorem conv_length (l : List S41) : (conv l).length = l.length := by simp [conv]
theorem toPlateS_loop (l : List S41) (hl : l.length ≤ 1000000000000) : ∀ (d i : Nat) (acc : List S43), i ≤ l.length → l.length - i = d → acc.length = l.length → acc.take i = (conv l).take i →
    Ev (fun k => laws_toPlateS.l0 k l acc (i : Int)) (conv l) := by
  intro d
  induction d with
  | zero =>
    intro i acc hi hd ha ht
    obtain rfl : i = l.length := by omega
    refine M.Ev_succ (M.Ev_some fun k => ?_)
    simp only [laws_toPlateS.l0]
    rw [if_neg (by omega)]
    rw [List.take_of_length_le (by omega), List.take_of_length_le (by rw [conv_length]; omega)] at ht
    rw [ht]
  | succ d ih =>
    intro i acc hi hd ha ht
    have hil : i < l.length := by omega
    have e : wrap64 ((i : Int) + 1) = ((i + 1 : Nat) : Int) := by rw [M.w64 (by omega) (by omega)]; omega
    refine M.Ev_succ ?_
    simp only [laws_toPlateS.l0, show (i : Int) < (l.length : Int) by omega, show (0 : Int) ≤ (i : Int) by omega, if_true, toPlate_eq, Option.bind_some, show (i : Int) < (acc.length : Int) by omega, e, Int.toNat_natCast]
    refine ih (i + 1) _ (by omega) (by omega) (by rw [List.length_set]; exact ha) ?_
    have hr : rd_T41 l (i : Int) = l[i] := by
      unfold rd_T41
      rw [Int.toNat_natCast, List.getD_eq_getElem?_getD, List.getElem?_eq_getElem hil]; rfl
    rw [List.take_succ_eq_append_getElem (by rw [List.length_set]; omega), List.take_succ_eq_append_getElem (by rw [conv_length]; omega), List.take_set, List.set_eq_of_length_le (by simp; omega), ht]
    congr 1
    simp [conv, hr]
theorem toPlateS_ev (l : List S41) (hl : l.length ≤ 1000000000000) : Ev (fun k => laws_toPlateS.f k l) (conv l) := by
  unfold laws_toPlateS.f
  simp only [show (0 : Int) ≤ (l.length : Int) by omega, if_true, Int.toNat_natCast, show l.length ≤ 17592186044416 by omega]
  exact toPlateS_loop l hl l.length 0 _ (by omega) (by omega) (by simp) (by simp)
theorem eqPlate_refl (n l : Int) : laws_eqPlate.f n l n l = some true := by
  unfold laws_eqPlate.f; rw [if_pos rfl, if_pos rfl]
theorem eqPlateS_loop (l : List S43) (hl : l.length ≤ 1000000000000) : ∀ (d i : Nat), i ≤ l.length → l.length - i = d → Ev (fun k => laws_eqPlateS.l0 k l l (i : Int)) true := by
  intro d
  induction d with
  | zero =>
    intro i hi hd
    refine M.Ev_succ (M.Ev_some fun k => ?_)
    simp only [laws_eqPlateS.l0]
    rw [if_neg (by omega)]
  | succ d ih =>
    intro i hi hd
    have e : wrap64 ((i : Int) + 1) = ((i + 1 : Nat) : Int) := by rw [M.w64 (by omega) (by omega)]; omega
    refine M.Ev_succ ?_
    simp only [laws_eqPlateS.l0, show (i : Int) < (l.length : Int) by omega, show (0 : Int) ≤ (i : Int) by omega, if_true, eqPlate_refl, Option.bind_some, e]
    exact ih (i + 1) (by omega) (by omega)
theorem eqPlateS_ev (l : List S43) (hl : l.length ≤ 1000000000000) : Ev (fun k => laws_eqPlateS.f k l l) true := by
  unfold laws_eqPlateS.f
  simp only [if_true]
  exact eqPlateS_loop l hl l.length 0 (by omega) (by omega)
theorem sz_big (l : List S41) (hl : l.length * 16 ≤ 140737488351232) (c : 1048576 < l.length) : laws_szPlateS.f l 1048576 = some (-1) := by
  unfold laws_szPlateS.f
  rw [M.w64 (x := 1048576 - (l.length : Int)) (by omega) (by omega), if_pos (by omega)]
theorem sz_small (l : List S41) (c : ¬ 1048576 < l.length) : laws_szPlateS.f l 1048576 = some (1048576 - (l.length : Int)) := by
  unfold laws_szPlateS.f
  rw [M.w64 (x := 1048576 - (l.length : Int)) (by omega) (by omega), if_neg (by omega)]
def laws_FnExactLettersOf.Pure : Prop := ∀ (l0 : List S41) (a1 : Int), (∀ x ∈ l0, (Lit.int .i64 x.f0).wf = true ∧ (Lit.int .i64 x.f1).wf = true) → l0.length * 16 ≤ 140737488351232 → (Lit.int .i64 a1).wf = true → ∃ k, laws_FnExactLettersOf.f k l0 a1 = some true
theorem FnExactLettersOf : laws_FnExactLettersOf.Pure := by
  intro l n _ hl _
  refine Ev.rounds (r := true) ?_
  unfold laws_FnExactLettersOf.f
  by_cases c : 1048576 < l.length
  · simp only [sz_big l hl c, Option.bind_some]; exact M.Ev_some fun k => rfl
  · simp only [sz_small l c, Option.bind_some, show ¬ ((1048576 : Int) - (l.length : Int) < 0) by omega, if_false]
    have hc : (conv l).length ≤ 1000000000000 := by rw [conv_length]; omega
    obtain ⟨h1, h2⟩ := Letters_ev (conv l) n hc
    have ht := toPlateS_ev l (by omega)
    refine Ev.bind ht (Ev.bind h1 (Ev.bind ht (Ev.bind h2 ?_)))
    simp only [if_true, bne_self_eq_false]
    refine M.Ev_succ ?_
    simp only [laws_FnExactLettersOf.j0, Bool.false_eq_true, if_false]
    exact Ev.bind ht (Ev.bind (eqPlateS_ev (conv l) hc) (M.Ev_some fun k => by simp))

end Go.Proofs.Ytgjgbdpfjohaaaa.Pure
