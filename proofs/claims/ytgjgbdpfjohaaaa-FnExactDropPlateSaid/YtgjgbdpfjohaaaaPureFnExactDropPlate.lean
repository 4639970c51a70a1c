/- The program's DropPlate and the reference's answer the same for all lists and places, the argument stays as it was, and the result shares no memory: no further condition. -/
import Derived.Test.YtgjgbdpfjohaaaaM
import Derived.Test.YtgjgbdpfjohaaaaPFnExactDropPlatex6
namespace Go.Proofs.Ytgjgbdpfjohaaaa.Pure
open Go.RowKit Go.Proofs.Ytgjgbdpfjohaaaa.PFnExactDropPlate Go.Proofs.YtgjgbdpfjohaaaaW.PrintWords Go.Proofs.YtgjgbdpfjohaaaaW.PrintLast Go.Proofs.YtgjgbdpfjohaaaaW.PrintMore
set_option linter.unusedVariables false
set_option linter.unusedSimpArgs false
theorem spec_l1In_eq (a b c : Int) : spec_l1In.f a b c = some (decide (b ≤ a ∧ a ≤ c)) := by
  unfold spec_l1In.f
  by_cases h : a ≥ b
  · rw [if_pos h]; simp [show b ≤ a from h]
  · rw [if_neg h]; simp [show ¬ b ≤ a from h]
theorem impl_within_eq (a b c : Int) : impl_within.f a b c = some (decide (b ≤ a ∧ a ≤ c)) := by
  unfold impl_within.f
  by_cases h : a ≥ b
  · rw [if_pos h]; simp [show b ≤ a from h]
  · rw [if_neg h]; simp [show ¬ b ≤ a from h]
theorem spec_isPlate_eq (n l : Int) : spec_isPlate.f n l = some (M.plateB n l) := by
  unfold spec_isPlate.f M.plateB
  simp only [spec_l1In_eq, Option.bind_some]
  by_cases h : 1 ≤ n ∧ n ≤ 9999 <;> simp [h]
theorem impl_IsPlate_eq (n l : Int) : impl_IsPlate.f n l = some (M.plateB n l) := by
  unfold impl_IsPlate.f M.plateB
  simp only [impl_within_eq, Option.bind_some]
  by_cases h : 1 ≤ n ∧ n ≤ 9999 <;> simp [h]
theorem spec_isRank_eq {n l : Int} (h : M.plateB n l = true) : spec_isRank.f n l = some (M.rank n l) := by
  have h' := M.plateB_iff.1 h
  unfold spec_isRank.f M.rank
  rw [M.w64 (x := 27 * n) (by omega) (by omega), M.w64 (by omega) (by omega), Int.mul_comm]
theorem impl_rankOf_eq {n l : Int} (h : M.plateB n l = true) : impl_rankOf.f n l = some (M.rank n l) := by
  have h' := M.plateB_iff.1 h
  unfold impl_rankOf.f M.rank
  rw [M.w64 (x := n * 27) (by omega) (by omega), M.w64 (by omega) (by omega)]
def pn (l : List S43) (i : Nat) : Int := (rd_T43 l (i : Int)).f0
def pl (l : List S43) (i : Nat) : Int := (rd_T43 l (i : Int)).f1
def prk (l : List S43) (i : Nat) : Int := M.rank (pn l i) (pl l i)
/-- Plates: 1 to 60 of them, each a plate, one behind the other. -/
def Good (l : List S43) : Prop := 1 ≤ l.length ∧ l.length ≤ 60 ∧ (∀ i, i < l.length → M.plateB (pn l i) (pl l i) = true) ∧ ∀ i, i + 1 < l.length → prk l i < prk l (i + 1)
noncomputable instance goodDec (l : List S43) : Decidable (Good l) := Classical.propDecidable _
theorem good_loops (l : List S43) (hl : l.length ≤ 9000000000000000000) : ∀ (d i : Nat), i ≤ l.length → l.length - i = d → (0 < i → M.plateB (pn l (i - 1)) (pl l (i - 1)) = true) →
    ∃ b : Bool, Ev (fun k => spec_isGood.l0 k l l (l.length : Int) (i : Int)) b ∧ Ev (fun k => impl_ArePlates.l0 k l l (l.length : Int) (i : Int)) (b && decide (1 ≤ l.length ∧ l.length ≤ 60)) ∧
      (b = true ↔ (∀ j, i ≤ j → j < l.length → M.plateB (pn l j) (pl l j) = true) ∧ ∀ j, i ≤ j + 1 → j + 1 < l.length → prk l j < prk l (j + 1)) := by
  intro d
  induction d with
  | zero =>
    intro i hi hd hp
    refine ⟨true, M.Ev_succ (M.Ev_some fun k => ?_), M.Ev_succ (M.Ev_some fun k => ?_), ?_⟩
    · simp only [spec_isGood.l0]; rw [if_neg (by omega)]
    · simp only [impl_ArePlates.l0]
      rw [if_neg (by omega), impl_within_eq]
      simp only [Option.bind_some, Bool.true_and, Option.some.injEq, decide_eq_decide]
      omega
    · simp only [true_iff]
      exact ⟨fun j a b => by omega, fun j a b => by omega⟩
  | succ d ih =>
    intro i hi hd hp
    have e : wrap64 ((i : Int) + 1) = ((i + 1 : Nat) : Int) := by rw [M.w64 (by omega) (by omega)]; omega
    have sp : spec_isPlate.f ((rd_T43 l (i : Int)).f0) ((rd_T43 l (i : Int)).f1) = some (M.plateB (pn l i) (pl l i)) := spec_isPlate_eq _ _
    have ip : impl_IsPlate.f ((rd_T43 l (i : Int)).f0) ((rd_T43 l (i : Int)).f1) = some (M.plateB (pn l i) (pl l i)) := impl_IsPlate_eq _ _
    by_cases hc : M.plateB (pn l i) (pl l i) = true
    · have sr : spec_isRank.f ((rd_T43 l (i : Int)).f0) ((rd_T43 l (i : Int)).f1) = some (prk l i) := spec_isRank_eq hc
      have ir : impl_rankOf.f ((rd_T43 l (i : Int)).f0) ((rd_T43 l (i : Int)).f1) = some (prk l i) := impl_rankOf_eq hc
      obtain ⟨b, h1, h2, h3⟩ := ih (i + 1) (by omega) (by omega) (fun _ => by simpa using hc)
      by_cases h0 : i = 0
      · subst h0
        refine ⟨b, M.Ev_succ ?_, M.Ev_succ ?_, ?_⟩
        · simp only [spec_isGood.l0, show ((0 : Nat) : Int) < (l.length : Int) by omega, show (0 : Int) ≤ ((0 : Nat) : Int) by omega, if_true, sp, hc, Option.bind_some, show ¬ (((0 : Nat) : Int) > 0) by omega, if_false, e]
          exact h1
        · simp only [impl_ArePlates.l0, show ((0 : Nat) : Int) < (l.length : Int) by omega, show (0 : Int) ≤ ((0 : Nat) : Int) by omega, if_true, ip, hc, Option.bind_some, show ¬ (((0 : Nat) : Int) > 0) by omega, if_false, e]
          exact h2
        · rw [h3]
          constructor
          · rintro ⟨x, y⟩
            refine ⟨fun j a b => ?_, fun j a b => y j (by omega) b⟩
            by_cases q : j = 0
            · rw [q]; exact hc
            · exact x j (by omega) b
          · rintro ⟨x, y⟩
            exact ⟨fun j a b => x j (by omega) b, fun j a b => y j (by omega) b⟩
      · have hq := hp (by omega)
        have em : wrap64 ((i : Int) - 1) = ((i - 1 : Nat) : Int) := by rw [M.w64 (by omega) (by omega)]; omega
        have sm : spec_isRank.f ((rd_T43 l ((i - 1 : Nat) : Int)).f0) ((rd_T43 l ((i - 1 : Nat) : Int)).f1) = some (prk l (i - 1)) := spec_isRank_eq hq
        have im : impl_rankOf.f ((rd_T43 l ((i - 1 : Nat) : Int)).f0) ((rd_T43 l ((i - 1 : Nat) : Int)).f1) = some (prk l (i - 1)) := impl_rankOf_eq hq
        have ei : i - 1 + 1 = i := by omega
        by_cases hr : prk l (i - 1) < prk l i
        · refine ⟨b, M.Ev_succ ?_, M.Ev_succ ?_, ?_⟩
          · simp only [spec_isGood.l0, show (i : Int) < (l.length : Int) by omega, show (0 : Int) ≤ (i : Int) by omega, if_true, sp, hc, Option.bind_some, show ((i : Int) > 0) by omega, e, em, show (0 : Int) ≤ ((i - 1 : Nat) : Int) by omega, show ((i - 1 : Nat) : Int) < (l.length : Int) by omega, sm, sr, show ¬ (prk l (i - 1) ≥ prk l i) by omega, if_false]
            exact h1
          · simp only [impl_ArePlates.l0, show (i : Int) < (l.length : Int) by omega, show (0 : Int) ≤ (i : Int) by omega, if_true, ip, hc, Option.bind_some, show ((i : Int) > 0) by omega, e, em, show (0 : Int) ≤ ((i - 1 : Nat) : Int) by omega, show ((i - 1 : Nat) : Int) < (l.length : Int) by omega, im, ir, show ¬ (prk l (i - 1) ≥ prk l i) by omega, if_false]
            exact h2
          · rw [h3]
            constructor
            · rintro ⟨x, y⟩
              refine ⟨fun j a b => ?_, fun j a b => ?_⟩
              · by_cases q : j = i
                · rw [q]; exact hc
                · exact x j (by omega) b
              · by_cases q : j + 1 = i
                · have : j = i - 1 := by omega
                  rw [this, ei]; exact hr
                · exact y j (by omega) b
            · rintro ⟨x, y⟩
              exact ⟨fun j a b => x j (by omega) b, fun j a b => y j (by omega) b⟩
        · refine ⟨false, M.Ev_succ (M.Ev_some fun k => ?_), M.Ev_succ (M.Ev_some fun k => ?_), ?_⟩
          · simp only [spec_isGood.l0, show (i : Int) < (l.length : Int) by omega, show (0 : Int) ≤ (i : Int) by omega, if_true, sp, hc, Option.bind_some, show ((i : Int) > 0) by omega, e, em, show (0 : Int) ≤ ((i - 1 : Nat) : Int) by omega, show ((i - 1 : Nat) : Int) < (l.length : Int) by omega, sm, sr, show (prk l (i - 1) ≥ prk l i) by omega]
          · simp only [impl_ArePlates.l0, show (i : Int) < (l.length : Int) by omega, show (0 : Int) ≤ (i : Int) by omega, if_true, ip, hc, Option.bind_some, show ((i : Int) > 0) by omega, e, em, show (0 : Int) ≤ ((i - 1 : Nat) : Int) by omega, show ((i - 1 : Nat) : Int) < (l.length : Int) by omega, im, ir, show (prk l (i - 1) ≥ prk l i) by omega, Bool.false_and]
          · simp only [Bool.false_eq_true, false_iff]
            rintro ⟨x, y⟩
            have := y (i - 1) (by omega) (by omega)
            rw [ei] at this
            exact hr this
    · refine ⟨false, M.Ev_succ (M.Ev_some fun k => ?_), M.Ev_succ (M.Ev_some fun k => ?_), ?_⟩
      · simp only [spec_isGood.l0, show (i : Int) < (l.length : Int) by omega, show (0 : Int) ≤ (i : Int) by omega, if_true, sp, hc, Option.bind_some, Bool.false_eq_true, if_false]
      · simp only [impl_ArePlates.l0, show (i : Int) < (l.length : Int) by omega, show (0 : Int) ≤ (i : Int) by omega, if_true, ip, hc, Option.bind_some, Bool.false_eq_true, if_false, Bool.false_and]
      · simp only [Bool.false_eq_true, false_iff]
        rintro ⟨x, _⟩
        exact hc (x i (by omega) (by omega))
theorem good_both (l : List S43) (hl : l.length ≤ 9000000000000000000) : ∃ b : Bool, Ev (fun k => spec_isGood.f k l) b ∧ Ev (fun k => impl_ArePlates.f k l) b ∧ (b = true ↔ Good l) := by
  obtain ⟨b, h1, h2, h3⟩ := good_loops l hl l.length 0 (by omega) (by omega) (fun h => by omega)
  refine ⟨b && decide (1 ≤ l.length ∧ l.length ≤ 60), ?_, ?_, ?_⟩
  · unfold spec_isGood.f
    rw [spec_l1In_eq]
    simp only [Option.bind_some]
    by_cases c : 1 ≤ l.length ∧ l.length ≤ 60
    · have c' : (1 : Int) ≤ (l.length : Int) ∧ (l.length : Int) ≤ 60 := by omega
      simp only [c, c', and_self, decide_true, if_true, Bool.and_true]
      exact h1
    · have c' : ¬ ((1 : Int) ≤ (l.length : Int) ∧ (l.length : Int) ≤ 60) := by omega
      simp only [c, c', decide_false, Bool.and_false]
      exact M.Ev_some fun k => by simp
  · unfold impl_ArePlates.f; exact h2
  · unfold Good
    simp only [Bool.and_eq_true, decide_eq_true_eq, h3]
    constructor
    · rintro ⟨⟨x, y⟩, a, b⟩
      exact ⟨a, b, fun i h => x i (by omega) h, fun i h => y i (by omega) h⟩
    · rintro ⟨a, b, x, y⟩
      exact ⟨⟨fun i _ h => x i h, fun i _ h => y i h⟩, a, b⟩
noncomputable def askP (l : List S43) (k : Int) : Bool := decide (Good l ∧ 0 ≤ k ∧ k < (l.length : Int))
theorem askP_ev (l : List S43) (k : Int) (hl : l.length ≤ 1000000000000) : Ev (fun r => spec_isAsked.f r l k) (askP l k) ∧ Ev (fun r => impl_hasPlate.f r l k) (askP l k) := by
  obtain ⟨b, h1, h2, h3⟩ := good_both l (by omega)
  unfold spec_isAsked.f impl_hasPlate.f
  cases b with
  | false =>
    have hg : ¬ Good l := fun z => by simpa using h3.2 z
    have e : askP l k = false := by unfold askP; exact decide_eq_false (fun z => hg z.1)
    rw [e]
    exact ⟨Ev.bind h1 (M.Ev_some fun k => rfl), Ev.bind h2 (M.Ev_some fun k => rfl)⟩
  | true =>
    have hg : Good l := h3.1 rfl
    have e : askP l k = decide (0 ≤ k ∧ k ≤ (l.length : Int) - 1) := by
      unfold askP
      rw [Bool.eq_iff_iff]
      simp only [decide_eq_true_eq]
      constructor
      · rintro ⟨_, a, b⟩; exact ⟨a, by omega⟩
      · rintro ⟨a, b⟩; exact ⟨hg, a, by omega⟩
    rw [e]
    refine ⟨Ev.bind h1 (M.Ev_some fun r => ?_), Ev.bind h2 (M.Ev_some fun r => ?_)⟩
    · simp only [if_true, spec_l1In_eq, Option.bind_some]
      rw [M.w64 (x := (l.length : Int) - 1) (by omega) (by omega)]
    · simp only [if_true, impl_within_eq, Option.bind_some]
      rw [M.w64 (x := (l.length : Int) - 1) (by omega) (by omega)]
theorem askP_true {l : List S43} {k : Int} (h : askP l k = true) : Good l ∧ 0 ≤ k ∧ k < (l.length : Int) := by
  unfold askP at h
  exact of_decide_eq_true h
theorem clonePlates_eq (l : List S43) (h : l.length ≤ 1000000) : impl_Plate_69.f l = some l := by
  unfold impl_Plate_69.f
  simp only [Option.bind_some, List.length_nil, Nat.zero_add, List.nil_append]
  rw [if_pos (by omega)]
noncomputable def dropR (l : List S43) (k : Int) : List S43 × Bool := if askP l k = true ∧ l.length ≠ 1 then (l.eraseIdx k.toNat, true) else ([], false)
theorem dropR_length (l : List S43) (k : Int) : (dropR l k).1.length ≤ 1000000 := by
  unfold dropR
  split
  · rename_i h
    have := (askP_true h.1).1.2.1
    have := List.length_eraseIdx_le l k.toNat
    show (l.eraseIdx k.toNat).length ≤ _
    omega
  · simp
/-- DropPlate: both give the list without its k-th plate, unless it is the only one. -/
theorem DropPlate_ev (l : List S43) (k : Int) (hl : l.length ≤ 1000000000000) : Ev (fun r => spec_DropPlate.f r l k) (dropR l k) ∧ Ev (fun r => impl_DropPlate.f r l k) (dropR l k) := by
  obtain ⟨h1, h2⟩ := askP_ev l k hl
  unfold spec_DropPlate.f impl_DropPlate.f dropR
  cases hb : askP l k with
  | false =>
    rw [hb] at h1 h2
    refine ⟨Ev.bind h1 (M.Ev_some fun k => by simp), Ev.bind h2 ?_⟩
    simp only [Bool.false_eq_true, if_false, false_and]
    exact M.Ev_succ (M.Ev_some fun k => by simp [impl_DropPlate.j0])
  | true =>
    obtain ⟨hg, h0, h3⟩ := askP_true hb
    have hl60 := hg.2.1
    rw [hb] at h1 h2
    obtain ⟨n, rfl⟩ : ∃ n : Nat, k = n := ⟨k.toNat, by omega⟩
    have e1 : wrap64 ((n : Int) + 1) = ((n + 1 : Nat) : Int) := by rw [M.w64 (by omega) (by omega)]; omega
    by_cases c : l.length = 1
    · refine ⟨Ev.bind h1 (M.Ev_some fun k => ?_), Ev.bind h2 ?_⟩
      · simp [c]
      · have e : ((l.length : Int) == 1) = true := by simp; omega
        simp only [if_true, e]
        refine M.Ev_succ (M.Ev_some fun k => ?_)
        simp [impl_DropPlate.j0, c]
    · refine ⟨Ev.bind h1 (M.Ev_some fun k => ?_), Ev.bind h2 ?_⟩
      · simp only [if_true, if_neg (show ¬ ((l.length : Int) = 1) by omega), Option.bind_some, e1, Int.toNat_natCast]
        rw [if_pos (by omega), if_pos (by omega), if_pos (by simp; omega), if_pos (by omega), if_pos (by omega), if_pos (by simp; omega), if_pos ⟨by simp, c⟩, List.eraseIdx_eq_take_drop_succ]
        rfl
      · have e : ((l.length : Int) == 1) = false := by simp; omega
        simp only [if_true, e]
        refine M.Ev_succ (M.Ev_some fun k => ?_)
        simp only [impl_DropPlate.j0, Bool.false_eq_true, if_false, clonePlates_eq l (by omega), Option.bind_some, e1]
        unfold impl_Plate_68.f
        rw [if_pos ⟨by omega, by omega, by omega⟩, if_pos ⟨by simp, c⟩]
        rfl
theorem toPlate_eq (n l : Int) : laws_toPlate.f n l = some (n, l) := rfl
def conv (l : List S41) : List S43 := l.map fun p => ⟨p.f0, p.f1⟩
theorem conv_length (l : List S41) : (conv l).length = l.length := by simp [conv]
theorem toPlateS_loop (l : List S41) (hl : l.length ≤ 1000000000000) : ∀ (d i : Nat) (acc : List S43), i ≤ l.length → l.length - i = d → acc.length = l.length → acc.take i = (conv l).take i →
    Ev (fun k => laws_toPlateS.l0 k l acc (i : Int)) (conv l) := by
  intro d
  induction d with
  | zero =>
    intro i acc hi hd ha ht
    obtain rfl : i = l.length := by omega
    refine M.Ev_succ (M.Ev_some fun k => ?_)
    simp only [laws_toPlateS.l0]
    rw [if_neg (by omega)]
    rw [List.take_of_length_le (by omega), List.take_of_length_le (by rw [conv_length]; omega)] at ht
    rw [ht]
  | succ d ih =>
    intro i acc hi hd ha ht
    have hil : i < l.length := by omega
    have e : wrap64 ((i : Int) + 1) = ((i + 1 : Nat) : Int) := by rw [M.w64 (by omega) (by omega)]; omega
    refine M.Ev_succ ?_
    simp only [laws_toPlateS.l0, show (i : Int) < (l.length : Int) by omega, show (0 : Int) ≤ (i : Int) by omega, if_true, toPlate_eq, Option.bind_some, show (i : Int) < (acc.length : Int) by omega, e, Int.toNat_natCast]
    refine ih (i + 1) _ (by omega) (by omega) (by rw [List.length_set]; exact ha) ?_
    have hr : rd_T41 l (i : Int) = l[i] := by
      unfold rd_T41
      rw [Int.toNat_natCast, List.getD_eq_getElem?_getD, List.getElem?_eq_getElem hil]; rfl
    rw [List.take_succ_eq_append_getElem (by rw [List.length_set]; omega), List.take_succ_eq_append_getElem (by rw [conv_length]; omega), List.take_set, List.set_eq_of_length_le (by simp; omega), ht]
    congr 1
    simp [conv, hr]
theorem toPlateS_ev (l : List S41) (hl : l.length ≤ 1000000000000) : Ev (fun k => laws_toPlateS.f k l) (conv l) := by
  unfold laws_toPlateS.f
  simp only [show (0 : Int) ≤ (l.length : Int) by omega, if_true, Int.toNat_natCast, show l.length ≤ 17592186044416 by omega]
  exact toPlateS_loop l hl l.length 0 _ (by omega) (by omega) (by simp) (by simp)
theorem eqPlate_refl (n l : Int) : laws_eqPlate.f n l n l = some true := by
  unfold laws_eqPlate.f; rw [if_pos rfl, if_pos rfl]
theorem eqPlateS_loop (l : List S43) (hl : l.length ≤ 1000000000000) : ∀ (d i : Nat), i ≤ l.length → l.length - i = d → Ev (fun k => laws_eqPlateS.l0 k l l (i : Int)) true := by
  intro d
  induction d with
  | zero =>
    intro i hi hd
    refine M.Ev_succ (M.Ev_some fun k => ?_)
    simp only [laws_eqPlateS.l0]
    rw [if_neg (by omega)]
  | succ d ih =>
    intro i hi hd
    have e : wrap64 ((i : Int) + 1) = ((i + 1 : Nat) : Int) := by rw [M.w64 (by omega) (by omega)]; omega
    refine M.Ev_succ ?_
    simp only [laws_eqPlateS.l0, show (i : Int) < (l.length : Int) by omega, show (0 : Int) ≤ (i : Int) by omega, if_true, eqPlate_refl, Option.bind_some, e]
    exact ih (i + 1) (by omega) (by omega)
theorem eqPlateS_ev (l : List S43) (hl : l.length ≤ 1000000000000) : Ev (fun k => laws_eqPlateS.f k l l) true := by
  unfold laws_eqPlateS.f
  simp only [if_true]
  exact eqPlateS_loop l hl l.length 0 (by omega) (by omega)
/-- What marking leaves: m, m+1 in the first one, and so on. -/
def runP (m : Int) (n : Nat) : List S43 := (List.range n).map fun (i : Nat) => ⟨m + 2 * (i : Int), m + 2 * (i : Int) + 1⟩
theorem runP_length (m : Int) (n : Nat) : (runP m n).length = n := by simp [runP]
theorem runP_get (m : Int) (n i : Nat) (h : i < (runP m n).length) : (runP m n)[i] = ⟨m + 2 * (i : Int), m + 2 * (i : Int) + 1⟩ := by simp [runP]
theorem rdT_get {l : List S43} {i : Nat} (h : i < l.length) : rd_T43 l (i : Int) = l[i] := by
  unfold rd_T43
  rw [Int.toNat_natCast, List.getD_eq_getElem?_getD, List.getElem?_eq_getElem h]; rfl
theorem markPlateS_loop (n : Nat) (hn : n ≤ 1000000000000) (m : Int) (hm : 0 ≤ m) (hm2 : m ≤ 1000000000000) : ∀ (d i : Nat) (acc : List S43), i ≤ n → n - i = d → acc.length = n → acc.take i = (runP m n).take i →
    Ev (fun k => laws_markPlateS.l0 k acc (m + 2 * (i : Int)) (i : Int)) (m + 2 * (n : Int), runP m n) := by
  intro d
  induction d with
  | zero =>
    intro i acc hi hd ha ht
    obtain rfl : i = n := by omega
    refine M.Ev_succ (M.Ev_some fun k => ?_)
    simp only [laws_markPlateS.l0]
    rw [if_neg (by omega), M.take_all ha (runP_length _ _) ht]
  | succ d ih =>
    intro i acc hi hd ha ht
    have e : wrap64 ((i : Int) + 1) = ((i + 1 : Nat) : Int) := by rw [M.w64 (by omega) (by omega)]; omega
    have e2 : wrap64 (m + 2 * (i : Int) + 1) = m + 2 * (i : Int) + 1 := M.w64 (by omega) (by omega)
    have e3 : wrap64 (m + 2 * (i : Int) + 1 + 1) = m + 2 * ((i + 1 : Nat) : Int) := by rw [M.w64 (by omega) (by omega)]; omega
    refine M.Ev_succ ?_
    simp only [laws_markPlateS.l0, show (i : Int) < (acc.length : Int) by omega, show (0 : Int) ≤ (i : Int) by omega, if_true, e, e2, e3, Int.toNat_natCast, Option.bind_some]
    have hs : ∀ v : S43, rd_T43 (acc.set i v) (i : Int) = v := fun v => by
      rw [rdT_get (by rw [List.length_set]; omega)]; simp
    simp only [hs, List.set_set]
    refine ih (i + 1) _ (by omega) (by omega) (by rw [List.length_set]; exact ha) ?_
    exact M.take_set_succ (by omega) (by rw [runP_length]; omega) ht (by rw [runP_get])
theorem markPlateS_ev (l : List S43) (hl : l.length ≤ 1000000000000) (m : Int) (hm : 0 ≤ m) (hm2 : m ≤ 1000000000000) : Ev (fun k => laws_markPlateS.f k l m) (m + 2 * (l.length : Int), runP m l.length) := by
  unfold laws_markPlateS.f
  have := markPlateS_loop l.length hl m hm hm2 l.length 0 l (by omega) (by omega) rfl (by simp)
  simpa using this
theorem heldPlateS_loop (n : Nat) (hn : n ≤ 1000000000000) (m : Int) (hm : 0 ≤ m) (hm2 : m ≤ 1000000000000) : ∀ (d i : Nat), i ≤ n → n - i = d → Ev (fun k => laws_heldPlateS.l0 k (runP m n) (m + 2 * (i : Int)) (i : Int)) (m + 2 * (n : Int)) := by
  intro d
  induction d with
  | zero =>
    intro i hi hd
    obtain rfl : i = n := by omega
    refine M.Ev_succ (M.Ev_some fun k => ?_)
    simp only [laws_heldPlateS.l0]
    rw [if_neg (by rw [runP_length]; omega)]
  | succ d ih =>
    intro i hi hd
    have e : wrap64 ((i : Int) + 1) = ((i + 1 : Nat) : Int) := by rw [M.w64 (by omega) (by omega)]; omega
    have e2 : wrap64 (m + 2 * (i : Int) + 1) = m + 2 * (i : Int) + 1 := M.w64 (by omega) (by omega)
    have e3 : wrap64 (m + 2 * (i : Int) + 1 + 1) = m + 2 * ((i + 1 : Nat) : Int) := by rw [M.w64 (by omega) (by omega)]; omega
    have hr : rd_T43 (runP m n) (i : Int) = ⟨m + 2 * (i : Int), m + 2 * (i : Int) + 1⟩ := by rw [rdT_get (by rw [runP_length]; omega), runP_get]
    refine M.Ev_succ ?_
    simp only [laws_heldPlateS.l0, show (i : Int) < ((runP m n).length : Int) by rw [runP_length]; omega, show (0 : Int) ≤ (i : Int) by omega, if_true, hr, e, e2, e3]
    exact ih (i + 1) (by omega) (by omega)
theorem heldPlateS_ev (n : Nat) (hn : n ≤ 1000000000000) (m : Int) (hm : 0 ≤ m) (hm2 : m ≤ 1000000000000) : Ev (fun k => laws_heldPlateS.f k (runP m n) m) (m + 2 * (n : Int)) := by
  unfold laws_heldPlateS.f
  have := heldPlateS_loop n hn m hm hm2 n 0 (by omega) (by omega)
  simpa using this
theorem sz_big (l : List S41) (hl : l.length * 16 ≤ 140737488351232) (c : 1048576 < l.length) : laws_szPlateS.f l 1048576 = some (-1) := by
  unfold laws_szPlateS.f
  rw [M.w64 (x := 1048576 - (l.length : Int)) (by omega) (by omega), if_pos (by omega)]
theorem sz_small (l : List S41) (c : ¬ 1048576 < l.length) : laws_szPlateS.f l 1048576 = some (1048576 - (l.length : Int)) := by
  unfold laws_szPlateS.f
  rw [M.w64 (x := 1048576 - (l.length : Int)) (by omega) (by omega), if_neg (by omega)]
def laws_FnExactDropPlate.Pure : Prop := ∀ (l0 : List S41) (a1 : Int), (∀ x ∈ l0, (Lit.int .i64 x.f0).wf = true ∧ (Lit.int .i64 x.f1).wf = true) → l0.length * 16 ≤ 140737488351232 → (Lit.int .i64 a1).wf = true → ∃ k, laws_FnExactDropPlate.f k l0 a1 = some true
theorem FnExactDropPlate : laws_FnExactDropPlate.Pure := by
  intro l a _ hl _
  refine Ev.rounds (r := true) ?_
  unfold laws_FnExactDropPlate.f
  by_cases c : 1048576 < l.length
  · simp only [sz_big l hl c, Option.bind_some]; exact M.Ev_some fun k => rfl
  · simp only [sz_small l c, Option.bind_some, show ¬ ((1048576 : Int) - (l.length : Int) < 0) by omega, if_false]
    have hc : (conv l).length ≤ 1000000000000 := by rw [conv_length]; omega
    obtain ⟨h1, h2⟩ := DropPlate_ev (conv l) a hc
    have hr : (dropR (conv l) a).1.length ≤ 1000000000000 := by have := dropR_length (conv l) a; omega
    generalize dropR (conv l) a = r at h1 h2 hr
    have ht := toPlateS_ev l (by omega)
    refine Ev.bind ht (Ev.bind h1 (Ev.bind ht (Ev.bind h2 (Ev.bind (eqPlateS_ev r.1 hr) ?_))))
    simp only [if_true, bne_self_eq_false]
    refine M.Ev_succ ?_
    simp only [laws_FnExactDropPlate.j0, Bool.false_eq_true, if_false]
    refine Ev.bind ht (Ev.bind (eqPlateS_ev (conv l) hc) ?_)
    simp only [if_true]
    refine Ev.bind (markPlateS_ev (conv l) hc 1 (by omega) (by omega)) ?_
    simp only [show ¬ ((1 : Int) + 2 * ((conv l).length : Int) < 0) by omega, if_false]
    refine Ev.bind (eqPlateS_ev r.1 hr) ?_
    simp only [if_true, bne_self_eq_false]
    refine M.Ev_succ ?_
    simp only [laws_FnExactDropPlate.j1, Bool.false_eq_true, if_false]
    refine Ev.bind (markPlateS_ev r.1 hr 1 (by omega) (by omega)) (Ev.bind (heldPlateS_ev r.1.length hr 1 (by omega) (by omega)) ?_)
    simp only [show ¬ ((1 : Int) + 2 * (r.1.length : Int) < 0) by omega, if_false, if_true]
    refine Ev.bind ht (Ev.bind h2 (Ev.bind (eqPlateS_ev r.1 hr) ?_))
    simp only [if_true, bne_self_eq_false]
    refine M.Ev_succ ?_
    simp only [laws_FnExactDropPlate.j2, Bool.false_eq_true, if_false]
    refine Ev.bind (heldPlateS_ev r.1.length hr 1 (by omega) (by omega)) (M.Ev_some fun k => ?_)
    rw [if_neg (by omega), if_pos rfl]

end Go.Proofs.Ytgjgbdpfjohaaaa.Pure
