/- The program's PlatesText and the reference's answer the same for all lists, and the argument stays as it was: no further condition. -/
import Derived.Test.YtflifmlgpndjjaaDoorM
import Derived.Test.YtflifmlgpndjjaaDoorPFnExactPlatesTextx6
import Derived.Lib.Join
namespace Go.Proofs.YtflifmlgpndjjaaDoor.Pure
open Go.RowKit Go.Proofs.YtflifmlgpndjjaaDoor.PFnExactPlatesText Go.Proofs.YtflifmlgpndjjaaDoorW.PrintWords Go.Proofs.YtflifmlgpndjjaaDoorW.PrintLast Go.Proofs.YtflifmlgpndjjaaDoorW.PrintMore
set_option linter.unusedVariables false
set_option linter.unusedSimpArgs false
theorem spec_l1In_eq (a b c : Int) : spec_l1In.f a b c = some (decide (b ≤ a ∧ a ≤ c)) := by
  unfold spec_l1In.f
  by_cases h : a ≥ b
  · rw [if_pos h]; simp [show b ≤ a from h]
  · rw [if_neg h]; simp [show ¬ b ≤ a from h]
theorem impl_within_eq (a b c : Int) : impl_within.f a b c = some (decide (b ≤ a ∧ a ≤ c)) := by
  unfold impl_within.f
  by_cases h : a ≥ b
  · rw [if_pos h]; simp [show b ≤ a from h]
  · rw [if_neg h]; simp [show ¬ b ≤ a from h]
theorem spec_isPlate_eq (n l : Int) : spec_isPlate.f n l = some (M.plateB n l) := by
  unfold spec_isPlate.f M.plateB
  simp only [spec_l1In_eq, Option.bind_some]
  by_cases h : 1 ≤ n ∧ n ≤ 9999 <;> simp [h]
theorem impl_IsPlate_eq (n l : Int) : impl_IsPlate.f n l = some (M.plateB n l) := by
  unfold impl_IsPlate.f M.plateB
  simp only [impl_within_eq, Option.bind_some]
  by_cases h : 1 ≤ n ∧ n ≤ 9999 <;> simp [h]
theorem spec_isRank_eq {n l : Int} (h : M.plateB n l = true) : spec_isRank.f n l = some (M.rank n l) := by
  have h' := M.plateB_iff.1 h
  unfold spec_isRank.f M.rank
  rw [M.w64 (x := 27 * n) (by omega) (by omega), M.w64 (by omega) (by omega), Int.mul_comm]
theorem impl_rankOf_eq {n l : Int} (h : M.plateB n l = true) : impl_rankOf.f n l = some (M.rank n l) := by
  have h' := M.plateB_iff.1 h
  unfold impl_rankOf.f M.rank
  rw [M.w64 (x := n * 27) (by omega) (by omega), M.w64 (by omega) (by omega)]
def pn (l : List S32) (i : Nat) : Int := (rd_T32 l (i : Int)).f0
def pl (l : List S32) (i : Nat) : Int := (rd_T32 l (i : Int)).f1
def prk (l : List S32) (i : Nat) : Int := M.rank (pn l i) (pl l i)
/-- Plates: 1 to 60 of them, each a plate, one behind the other. -/
def Good (l : List S32) : Prop := 1 ≤ l.length ∧ l.length ≤ 60 ∧ (∀ i, i < l.length → M.plateB (pn l i) (pl l i) = true) ∧ ∀ i, i + 1 < l.length → prk l i < prk l (i + 1)
noncomputable instance goodDec (l : List S32) : Decidable (Good l) := Classical.propDecidable _
theorem good_loops (l : List S32) (hl : l.length ≤ 9000000000000000000) : ∀ (d i : Nat), i ≤ l.length → l.length - i = d → (0 < i → M.plateB (pn l (i - 1)) (pl l (i - 1)) = true) →
    ∃ b : Bool, Ev (fun k => spec_isGood.l0 k l l (l.length : Int) (i : Int)) b ∧ Ev (fun k => impl_ArePlates.l0 k l l (l.length : Int) (i : Int)) (b && decide (1 ≤ l.length ∧ l.length ≤ 60)) ∧
      (b = true ↔ (∀ j, i ≤ j → j < l.length → M.plateB (pn l j) (pl l j) = true) ∧ ∀ j, i ≤ j + 1 → j + 1 < l.length → prk l j < prk l (j + 1)) := by
  intro d
  induction d with
  | zero =>
    intro i hi hd hp
    refine ⟨true, M.Ev_succ (M.Ev_some fun k => ?_), M.Ev_succ (M.Ev_some fun k => ?_), ?_⟩
    · simp only [spec_isGood.l0]; rw [if_neg (by omega)]
    · simp only [impl_ArePlates.l0]
      rw [if_neg (by omega), impl_within_eq]
      simp only [Option.bind_some, Bool.true_and, Option.some.injEq, decide_eq_decide]
      omega
    · simp only [true_iff]
      exact ⟨fun j a b => by omega, fun j a b => by omega⟩
  | succ d ih =>
    intro i hi hd hp
    have e : wrap64 ((i : Int) + 1) = ((i + 1 : Nat) : Int) := by rw [M.w64 (by omega) (by omega)]; omega
    have sp : spec_isPlate.f ((rd_T32 l (i : Int)).f0) ((rd_T32 l (i : Int)).f1) = some (M.plateB (pn l i) (pl l i)) := spec_isPlate_eq _ _
    have ip : impl_IsPlate.f ((rd_T32 l (i : Int)).f0) ((rd_T32 l (i : Int)).f1) = some (M.plateB (pn l i) (pl l i)) := impl_IsPlate_eq _ _
    by_cases hc : M.plateB (pn l i) (pl l i) = true
    · have sr : spec_isRank.f ((rd_T32 l (i : Int)).f0) ((rd_T32 l (i : Int)).f1) = some (prk l i) := spec_isRank_eq hc
      have ir : impl_rankOf.f ((rd_T32 l (i : Int)).f0) ((rd_T32 l (i : Int)).f1) = some (prk l i) := impl_rankOf_eq hc
      obtain ⟨b, h1, h2, h3⟩ := ih (i + 1) (by omega) (by omega) (fun _ => by simpa using hc)
      by_cases h0 : i = 0
      · subst h0
        refine ⟨b, M.Ev_succ ?_, M.Ev_succ ?_, ?_⟩
        · simp only [spec_isGood.l0, show ((0 : Nat) : Int) < (l.length : Int) by omega, show (0 : Int) ≤ ((0 : Nat) : Int) by omega, if_true, sp, hc, Option.bind_some, show ¬ (((0 : Nat) : Int) > 0) by omega, if_false, e]
          exact h1
        · simp only [impl_ArePlates.l0, show ((0 : Nat) : Int) < (l.length : Int) by omega, show (0 : Int) ≤ ((0 : Nat) : Int) by omega, if_true, ip, hc, Option.bind_some, show ¬ (((0 : Nat) : Int) > 0) by omega, if_false, e]
          exact h2
        · rw [h3]
          constructor
          · rintro ⟨x, y⟩
            refine ⟨fun j a b => ?_, fun j a b => y j (by omega) b⟩
            by_cases q : j = 0
            · rw [q]; exact hc
            · exact x j (by omega) b
          · rintro ⟨x, y⟩
            exact ⟨fun j a b => x j (by omega) b, fun j a b => y j (by omega) b⟩
      · have hq := hp (by omega)
        have em : wrap64 ((i : Int) - 1) = ((i - 1 : Nat) : Int) := by rw [M.w64 (by omega) (by omega)]; omega
        have sm : spec_isRank.f ((rd_T32 l ((i - 1 : Nat) : Int)).f0) ((rd_T32 l ((i - 1 : Nat) : Int)).f1) = some (prk l (i - 1)) := spec_isRank_eq hq
        have im : impl_rankOf.f ((rd_T32 l ((i - 1 : Nat) : Int)).f0) ((rd_T32 l ((i - 1 : Nat) : Int)).f1) = some (prk l (i - 1)) := impl_rankOf_eq hq
        have ei : i - 1 + 1 = i := by omega
        by_cases hr : prk l (i - 1) < prk l i
        · refine ⟨b, M.Ev_succ ?_, M.Ev_succ ?_, ?_⟩
          · simp only [spec_isGood.l0, show (i : Int) < (l.length : Int) by omega, show (0 : Int) ≤ (i : Int) by omega, if_true, sp, hc, Option.bind_some, show ((i : Int) > 0) by omega, e, em, show (0 : Int) ≤ ((i - 1 : Nat) : Int) by omega, show ((i - 1 : Nat) : Int) < (l.length : Int) by omega, sm, sr, show ¬ (prk l (i - 1) ≥ prk l i) by omega, if_false]
            exact h1
          · simp only [impl_ArePlates.l0, show (i : Int) < (l.length : Int) by omega, show (0 : Int) ≤ (i : Int) by omega, if_true, ip, hc, Option.bind_some, show ((i : Int) > 0) by omega, e, em, show (0 : Int) ≤ ((i - 1 : Nat) : Int) by omega, show ((i - 1 : Nat) : Int) < (l.length : Int) by omega, im, ir, show ¬ (prk l (i - 1) ≥ prk l i) by omega, if_false]
            exact h2
          · rw [h3]
            constructor
            · rintro ⟨x, y⟩
              refine ⟨fun j a b => ?_, fun j a b => ?_⟩
              · by_cases q : j = i
                · rw [q]; exact hc
                · exact x j (by omega) b
              · by_cases q : j + 1 = i
                · have : j = i - 1 := by omega
                  rw [this, ei]; exact hr
                · exact y j (by omega) b
            · rintro ⟨x, y⟩
              exact ⟨fun j a b => x j (by omega) b, fun j a b => y j (by omega) b⟩
        · refine ⟨false, M.Ev_succ (M.Ev_some fun k => ?_), M.Ev_succ (M.Ev_some fun k => ?_), ?_⟩
          · simp only [spec_isGood.l0, show (i : Int) < (l.length : Int) by omega, show (0 : Int) ≤ (i : Int) by omega, if_true, sp, hc, Option.bind_some, show ((i : Int) > 0) by omega, e, em, show (0 : Int) ≤ ((i - 1 : Nat) : Int) by omega, show ((i - 1 : Nat) : Int) < (l.length : Int) by omega, sm, sr, show (prk l (i - 1) ≥ prk l i) by omega]
          · simp only [impl_ArePlates.l0, show (i : Int) < (l.length : Int) by omega, show (0 : Int) ≤ (i : Int) by omega, if_true, ip, hc, Option.bind_some, show ((i : Int) > 0) by omega, e, em, show (0 : Int) ≤ ((i - 1 : Nat) : Int) by omega, show ((i - 1 : Nat) : Int) < (l.length : Int) by omega, im, ir, show (prk l (i - 1) ≥ prk l i) by omega, Bool.false_and]
          · simp only [Bool.false_eq_true, false_iff]
            rintro ⟨x, y⟩
            have := y (i - 1) (by omega) (by omega)
            rw [ei] at this
            exact hr this
    · refine ⟨false, M.Ev_succ (M.Ev_some fun k => ?_), M.Ev_succ (M.Ev_some fun k => ?_), ?_⟩
      · simp only [spec_isGood.l0, show (i : Int) < (l.length : Int) by omega, show (0 : Int) ≤ (i : Int) by omega, if_true, sp, hc, Option.bind_some, Bool.false_eq_true, if_false]
      · simp only [impl_ArePlates.l0, show (i : Int) < (l.length : Int) by omega, show (0 : Int) ≤ (i : Int) by omega, if_true, ip, hc, Option.bind_some, Bool.false_eq_true, if_false, Bool.false_and]
      · simp only [Bool.false_eq_true, false_iff]
        rintro ⟨x, _⟩
        exact hc (x i (by omega) (by omega))
theorem good_both (l : List S32) (hl : l.length ≤ 9000000000000000000) : ∃ b : Bool, Ev (fun k => spec_isGood.f k l) b ∧ Ev (fun k => impl_ArePlates.f k l) b ∧ (b = true ↔ Good l) := by
  obtain ⟨b, h1, h2, h3⟩ := good_loops l hl l.length 0 (by omega) (by omega) (fun h => by omega)
  refine ⟨b && decide (1 ≤ l.length ∧ l.length ≤ 60), ?_, ?_, ?_⟩
  · unfold spec_isGood.f
    rw [spec_l1In_eq]
    simp only [Option.bind_some]
    by_cases c : 1 ≤ l.length ∧ l.length ≤ 60
    · have c' : (1 : Int) ≤ (l.length : Int) ∧ (l.length : Int) ≤ 60 := by omega
      simp only [c, c', and_self, decide_true, if_true, Bool.and_true]
      exact h1
    · have c' : ¬ ((1 : Int) ≤ (l.length : Int) ∧ (l.length : Int) ≤ 60) := by omega
      simp only [c, c', decide_false, Bool.and_false]
      exact M.Ev_some fun k => by simp
  · unfold impl_ArePlates.f; exact h2
  · unfold Good
    simp only [Bool.and_eq_true, decide_eq_true_eq, h3]
    constructor
    · rintro ⟨⟨x, y⟩, a, b⟩
      exact ⟨a, b, fun i h => x i (by omega) h, fun i h => y i (by omega) h⟩
    · rintro ⟨a, b, x, y⟩
      exact ⟨⟨fun i _ h => x i h, fun i _ h => y i h⟩, a, b⟩
theorem spec_l1Num_ev : ∀ (n : Nat), n ≤ 9223372036854775807 → Ev (fun k => spec_l1Num.f k (n : Int)) (strOfNums (M.digs n)) := by
  intro n
  induction n using Nat.strongRecOn with
  | ind n ih =>
    intro hn
    by_cases h : n < 10
    · have e2 : (wrap64 (48 + (n : Int))) % 256 = 48 + (n : Int) := by rw [M.w64 (by omega) (by omega)]; omega
      refine M.Ev_succ (M.Ev_some fun k => ?_)
      simp only [spec_l1Num.f]
      rw [if_pos (by omega), M.digs_small h, e2]
    · have e1 : wrap64 (Int.tdiv (n : Int) 10) = ((n / 10 : Nat) : Int) := by
        rw [M.tdiv_pos (by omega), M.w64 (by omega) (by omega)]; omega
      have e2 : (wrap64 (48 + Int.tmod (n : Int) 10)) % 256 = 48 + ((n % 10 : Nat) : Int) := by
        rw [M.tmod_pos (by omega), M.w64 (by omega) (by omega)]; omega
      refine M.Ev_succ ?_
      simp only [spec_l1Num.f, e1, e2, show ¬ ((n : Int) < 10) by omega, if_false]
      refine Ev.bind (ih (n / 10) (by omega) (by omega)) (M.Ev_some fun k => ?_)
      have hs := M.digs_le20 (n := n / 10) (by omega)
      simp only [Option.bind_some]
      rw [if_pos (by rw [strOfNums_size, strOfNums_size]; simp; omega), M.strOfNums_append, M.digs_big h]
def letT (p : Int) : List Int := if p = 0 then [] else [96 + p]
/-- A plate's text: its number, then its letter, if it has one. -/
def ptx (a b : Int) : List Int := M.digs a.toNat ++ letT b
theorem letter_all : ∀ n : Fin 27, n.val ≠ 0 → ((⟨#[97, 98, 99, 100, 101, 102, 103, 104, 105, 106, 107, 108, 109, 110, 111, 112, 113, 114, 115, 116, 117, 118, 119, 120, 121, 122]⟩ : ByteArray).extract (n.val - 1) n.val).data.toList = [UInt8.ofNat (96 + n.val)] := by decide +kernel
theorem isLetterT_eq {p : Int} (h0 : 0 ≤ p) (h : p ≤ 26) : spec_isLetter.f p (⟨#[]⟩ : ByteArray) = some (strOfNums (letT p)) := by
  unfold spec_isLetter.f letT
  by_cases c : p = 0
  · rw [if_pos c, if_pos c]; rfl
  · obtain ⟨n, rfl⟩ := Int.eq_ofNat_of_zero_le h0
    have e : wrap64 ((n : Int) - 1) = ((n - 1 : Nat) : Int) := by rw [M.w64 (by omega) (by omega)]; omega
    rw [if_neg c, if_neg c, e, if_pos (by omega), if_pos (by omega), if_pos (by omega)]
    congr 1
    apply ByteArray.ext
    apply Array.toList_inj.1
    have := letter_all ⟨n, by omega⟩ (by simpa using c)
    simp only [Int.toNat_natCast]
    rw [this]
    simp only [strOfNums, List.map_cons, List.map_nil]
    congr 2
theorem ptx_length {a b : Int} (h : M.plateB a b = true) : (ptx a b).length ≤ 22 := by
  have hp := M.plateB_iff.1 h
  have := M.digs_le20 (n := a.toNat) (by omega)
  unfold ptx letT
  rw [List.length_append]
  split <;> simp <;> omega
theorem isText_ev {a b : Int} (h : M.plateB a b = true) : Ev (fun k => spec_isText.f k a b) (strOfNums (ptx a b)) := by
  have hp := M.plateB_iff.1 h
  obtain ⟨n, rfl⟩ : ∃ n : Nat, a = n := ⟨a.toNat, by omega⟩
  have hl := ptx_length h
  unfold ptx at hl ⊢
  rw [Int.toNat_natCast] at hl ⊢
  unfold spec_isText.f
  refine Ev.bind (spec_l1Num_ev n (by omega)) (M.Ev_some fun k => ?_)
  rw [isLetterT_eq hp.2.2.1 hp.2.2.2]
  simp only [Option.bind_some]
  rw [if_pos (by rw [strOfNums_size, strOfNums_size, ← List.length_append]; omega), M.strOfNums_append]
theorem decDigits_eq : ∀ (n : Nat), Lib.decDigits n = (M.digs n).map (fun z => UInt8.ofNat z.toNat) := by
  intro n
  induction n using Nat.strongRecOn with
  | ind n ih =>
    by_cases h : n < 10
    · rw [Lib.decDigits, dif_pos h, M.digs_small h]
      simp only [List.map_cons, List.map_nil]
      rw [show (48 + (n : Int)).toNat = 48 + n by omega]
    · rw [Lib.decDigits, dif_neg h, M.digs_big h, ih (n / 10) (by omega)]
      simp only [List.map_append, List.map_cons, List.map_nil]
      rw [show (48 + ((n % 10 : Nat) : Int)).toNat = 48 + n % 10 by omega]
theorem itoa_eq (n : Nat) (h : n ≤ 9223372036854775807) : strconv_Itoa_33.f (n : Int) = some (strOfNums (M.digs n)) := by
  unfold strconv_Itoa_33.f strOfNums Lib.itoa
  rw [if_pos ⟨by omega, by omega⟩, if_neg (by omega), Int.toNat_natCast, decDigits_eq]
theorem plateText_eq {a b : Int} (h : M.plateB a b = true) : impl_plateText.f a b = some (strOfNums (ptx a b)) := by
  have hp := M.plateB_iff.1 h
  obtain ⟨n, rfl⟩ : ∃ n : Nat, a = n := ⟨a.toNat, by omega⟩
  have hl := ptx_length h
  unfold ptx letT at hl ⊢
  rw [Int.toNat_natCast] at hl ⊢
  unfold impl_plateText.f
  rw [itoa_eq n (by omega)]
  simp only [Option.bind_some]
  by_cases c : b = 0
  · rw [if_pos c, if_neg (by omega), List.append_nil]
  · rw [if_neg c] at hl
    have w1 : wrap64 (wrap64 (97 + b) - 1) % 256 = 96 + b := by rw [M.w64 (x := 97 + b) (by omega) (by omega), M.w64 (by omega) (by omega)]; omega
    rw [if_neg c, if_pos (by omega), w1, if_pos (by rw [strOfNums_size, strOfNums_size, ← List.length_append]; omega), M.strOfNums_append]
def ptn (l : List S32) (i : Nat) : List Int := ptx (pn l i) (pl l i)
/-- The first i plates' texts, joined by commas. -/
def pacc (l : List S32) : Nat → List Int
  | 0 => []
  | i + 1 => (if i = 0 then [] else pacc l i ++ [44]) ++ ptn l i
theorem pacc_le (l : List S32) (hg : Good l) : ∀ i, i ≤ l.length → (pacc l i).length ≤ 23 * i
  | 0, _ => by simp [pacc]
  | i + 1, h => by
    have h1 := pacc_le l hg i (by omega)
    have h2 : (ptn l i).length ≤ 22 := ptx_length (hg.2.2.1 i (by omega))
    simp only [pacc, List.length_append]
    split
    · simp; omega
    · simp; omega
theorem isTexts_loop (l : List S32) (hg : Good l) : ∀ (d i : Nat), i ≤ l.length → l.length - i = d → Ev (fun k => spec_isTexts.l0 k (strOfNums (pacc l i)) l (l.length : Int) (i : Int)) (strOfNums (pacc l l.length)) := by
  have hl60 := hg.2.1
  intro d
  induction d with
  | zero =>
    intro i hi hd
    obtain rfl : i = l.length := by omega
    refine M.Ev_succ (M.Ev_some fun k => ?_)
    simp only [spec_isTexts.l0]
    rw [if_neg (by omega)]
  | succ d ih =>
    intro i hi hd
    have e : wrap64 ((i : Int) + 1) = ((i + 1 : Nat) : Int) := by rw [M.w64 (by omega) (by omega)]; omega
    have ht := isText_ev (hg.2.2.1 i (by omega))
    have hla := pacc_le l hg i (by omega)
    have hlt : (ptx (pn l i) (pl l i)).length ≤ 22 := ptx_length (hg.2.2.1 i (by omega))
    have h1 := ih (i + 1) (by omega) (by omega)
    refine M.Ev_succ ?_
    simp only [spec_isTexts.l0, show (i : Int) < (l.length : Int) by omega, show (0 : Int) ≤ (i : Int) by omega, if_true]
    by_cases h0 : i = 0
    · subst h0
      simp only [show ¬ (((0 : Nat) : Int) > 0) by omega, if_false, e]
      refine Ev.bind (show Ev (fun k => spec_isText.f k (rd_T32 l ((0 : Nat) : Int)).f0 (rd_T32 l ((0 : Nat) : Int)).f1) _ from ht) ?_
      have hs : (strOfNums (pacc l 0)).size + (strOfNums (ptx (pn l 0) (pl l 0))).size ≤ 9223372036854775807 := by rw [strOfNums_size, strOfNums_size]; omega
      simp only [hs, if_true]
      rw [M.strOfNums_append]
      exact h1
    · have hs1 : (strOfNums (pacc l i)).size + 1 ≤ 9223372036854775807 := by rw [strOfNums_size]; omega
      simp only [show ((i : Int) > 0) by omega, hs1, if_true, e]
      refine Ev.bind (show Ev (fun k => spec_isText.f k (rd_T32 l (i : Int)).f0 (rd_T32 l (i : Int)).f1) _ from ht) ?_
      have e44 : (⟨#[44]⟩ : ByteArray) = strOfNums [44] := rfl
      have hs : (strOfNums (pacc l i) ++ (⟨#[44]⟩ : ByteArray)).size + (strOfNums (ptx (pn l i) (pl l i))).size ≤ 9223372036854775807 := by rw [e44, M.strOfNums_append, strOfNums_size, strOfNums_size, List.length_append]; simp; omega
      simp only [hs, if_true]
      rw [e44, M.strOfNums_append, M.strOfNums_append]
      have hp : pacc l (i + 1) = pacc l i ++ [44] ++ ptx (pn l i) (pl l i) := by simp only [pacc, if_neg h0, ptn]
      rw [← hp]
      exact h1
def partsAt (l : List S32) (n i : Nat) : List ByteArray := (List.range n).map (fun j => if j < i then strOfNums (ptn l j) else (⟨#[]⟩ : ByteArray))
theorem partsAt_length (l : List S32) (n i : Nat) : (partsAt l n i).length = n := by simp [partsAt]
theorem partsAt_zero (l : List S32) (n : Nat) : List.replicate n (⟨#[]⟩ : ByteArray) = partsAt l n 0 := by
  apply List.ext_getElem
  · simp [partsAt]
  · intro j h1 h2
    simp [partsAt]
theorem partsAt_set (l : List S32) (n i : Nat) : (partsAt l n i).set i (strOfNums (ptn l i)) = partsAt l n (i + 1) := by
  apply List.ext_getElem
  · simp [partsAt]
  · intro j h1 h2
    simp only [List.getElem_set, partsAt, List.getElem_map, List.getElem_range]
    by_cases c : i = j
    · subst c
      rw [if_pos rfl, if_pos (by omega)]
    · rw [if_neg c]
      by_cases c2 : j < i
      · rw [if_pos c2, if_pos (by omega)]
      · rw [if_neg c2, if_neg (by omega)]
theorem join_snoc (xs : List (List UInt8)) (x sep : List UInt8) : Lib.join (xs ++ [x]) sep = (if xs = [] then [] else Lib.join xs sep ++ sep) ++ x := by
  cases xs with
  | nil => simp [Lib.join_one]
  | cons y ys =>
    rw [List.cons_append, Lib.join_cons, Lib.join_cons, if_neg (by simp)]
    simp [Lib.joinTail]
theorem join_parts (l : List S32) (n : Nat) : ∀ i, Lib.join (((List.range i).map (fun j => strOfNums (ptn l j))).map (·.data.toList)) [44] = (pacc l i).map (fun z => UInt8.ofNat z.toNat)
  | 0 => rfl
  | i + 1 => by
    rw [List.range_succ, List.map_append, List.map_append, List.map_cons, List.map_nil, List.map_cons, List.map_nil, join_snoc, join_parts l n i]
    simp only [pacc]
    cases i with
    | zero => simp [strOfNums]
    | succ i => simp [strOfNums]
theorem PlatesText_loop (l : List S32) (hg : Good l) : ∀ (d i : Nat), i ≤ l.length → l.length - i = d → Ev (fun k => impl_PlatesText.l0 k (partsAt l l.length i) l (l.length : Int) (i : Int)) (strOfNums (pacc l l.length), true) := by
  have hl60 := hg.2.1
  intro d
  induction d with
  | zero =>
    intro i hi hd
    obtain rfl : i = l.length := by omega
    have hall : partsAt l l.length l.length = (List.range l.length).map (fun j => strOfNums (ptn l j)) := by
      apply List.map_congr_left
      intro j hj
      rw [if_pos (by simpa using hj)]
    have hj := join_parts l l.length l.length
    have hla := pacc_le l hg l.length (by omega)
    refine M.Ev_succ (M.Ev_some fun k => ?_)
    simp only [impl_PlatesText.l0]
    rw [if_neg (by omega), hall]
    unfold strings_Join.f
    rw [show (⟨#[44]⟩ : ByteArray).data.toList = [44] from rfl, hj, if_pos ⟨by simp; omega, by rw [List.length_map]; omega⟩]
    rfl
  | succ d ih =>
    intro i hi hd
    have e : wrap64 ((i : Int) + 1) = ((i + 1 : Nat) : Int) := by rw [M.w64 (by omega) (by omega)]; omega
    have h1 := ih (i + 1) (by omega) (by omega)
    have ht : impl_plateText.f (rd_T32 l (i : Int)).f0 (rd_T32 l (i : Int)).f1 = some (strOfNums (ptn l i)) := plateText_eq (hg.2.2.1 i (by omega))
    refine M.Ev_succ ?_
    simp only [impl_PlatesText.l0, show (i : Int) < (l.length : Int) by omega, show (0 : Int) ≤ (i : Int) by omega, if_true, ht, Option.bind_some, partsAt_length, e, Int.toNat_natCast, partsAt_set]
    exact h1
/-- PlatesText: both join the plates' texts by commas. -/
theorem PlatesText_ev (l : List S32) (hl : l.length ≤ 1000000000000) : ∃ r : ByteArray × Bool, Ev (fun k => spec_PlatesText.f k l) r ∧ Ev (fun k => impl_PlatesText.f k l) r := by
  obtain ⟨g, h1, h2, h3⟩ := good_both l (by omega)
  unfold spec_PlatesText.f impl_PlatesText.f spec_isTexts.f
  cases g with
  | false => exact ⟨(⟨#[]⟩, false), Ev.bind h1 (M.Ev_some fun k => by simp), Ev.bind h2 (M.Ev_some fun k => by simp)⟩
  | true =>
    have hg : Good l := h3.1 rfl
    have hl60 := hg.2.1
    refine ⟨(strOfNums (pacc l l.length), true), Ev.bind h1 ?_, Ev.bind h2 ?_⟩
    · simp only [if_true]
      exact Ev.bind (isTexts_loop l hg l.length 0 (by omega) (by omega)) (M.Ev_some fun k => rfl)
    · simp only [if_true, show (0 : Int) ≤ (l.length : Int) by omega, Int.toNat_natCast, show l.length ≤ 17592186044416 by omega, partsAt_zero l]
      exact PlatesText_loop l hg l.length 0 (by omega) (by omega)
theorem toPlate_eq (n l : Int) : laws_toPlate.f n l = some (n, l) := rfl
def conv (l : List S30) : List S32 := l.map fun p => ⟨p.f0, p.f1⟩
theorem conv_length (l : List S30) : (conv l).length = l.length := by simp [conv]
theorem toPlateS_loop (l : List S30) (hl : l.length ≤ 1000000000000) : ∀ (d i : Nat) (acc : List S32), i ≤ l.length → l.length - i = d → acc.length = l.length → acc.take i = (conv l).take i →
    Ev (fun k => laws_toPlateS.l0 k l acc (i : Int)) (conv l) := by
  intro d
  induction d with
  | zero =>
    intro i acc hi hd ha ht
    obtain rfl : i = l.length := by omega
    refine M.Ev_succ (M.Ev_some fun k => ?_)
    simp only [laws_toPlateS.l0]
    rw [if_neg (by omega)]
    rw [List.take_of_length_le (by omega), List.take_of_length_le (by rw [conv_length]; omega)] at ht
    rw [ht]
  | succ d ih =>
    intro i acc hi hd ha ht
    have hil : i < l.length := by omega
    have e : wrap64 ((i : Int) + 1) = ((i + 1 : Nat) : Int) := by rw [M.w64 (by omega) (by omega)]; omega
    refine M.Ev_succ ?_
    simp only [laws_toPlateS.l0, show (i : Int) < (l.length : Int) by omega, show (0 : Int) ≤ (i : Int) by omega, if_true, toPlate_eq, Option.bind_some, show (i : Int) < (acc.length : Int) by omega, e, Int.toNat_natCast]
    refine ih (i + 1) _ (by omega) (by omega) (by rw [List.length_set]; exact ha) ?_
    have hr : rd_T30 l (i : Int) = l[i] := by
      unfold rd_T30
      rw [Int.toNat_natCast, List.getD_eq_getElem?_getD, List.getElem?_eq_getElem hil]; rfl
    rw [List.take_succ_eq_append_getElem (by rw [List.length_set]; omega), List.take_succ_eq_append_getElem (by rw [conv_length]; omega), List.take_set, List.set_eq_of_length_le (by simp; omega), ht]
    congr 1
    simp [conv, hr]
theorem toPlateS_ev (l : List S30) (hl : l.length ≤ 1000000000000) : Ev (fun k => laws_toPlateS.f k l) (conv l) := by
  unfold laws_toPlateS.f
  simp only [show (0 : Int) ≤ (l.length : Int) by omega, if_true, Int.toNat_natCast, show l.length ≤ 17592186044416 by omega]
  exact toPlateS_loop l hl l.length 0 _ (by omega) (by omega) (by simp) (by simp)
theorem eqPlate_refl (n l : Int) : laws_eqPlate.f n l n l = some true := by
  unfold laws_eqPlate.f; rw [if_pos rfl, if_pos rfl]
theorem eqPlateS_loop (l : List S32) (hl : l.length ≤ 1000000000000) : ∀ (d i : Nat), i ≤ l.length → l.length - i = d → Ev (fun k => laws_eqPlateS.l0 k l l (i : Int)) true := by
  intro d
  induction d with
  | zero =>
    intro i hi hd
    refine M.Ev_succ (M.Ev_some fun k => ?_)
    simp only [laws_eqPlateS.l0]
    rw [if_neg (by omega)]
  | succ d ih =>
    intro i hi hd
    have e : wrap64 ((i : Int) + 1) = ((i + 1 : Nat) : Int) := by rw [M.w64 (by omega) (by omega)]; omega
    refine M.Ev_succ ?_
    simp only [laws_eqPlateS.l0, show (i : Int) < (l.length : Int) by omega, show (0 : Int) ≤ (i : Int) by omega, if_true, eqPlate_refl, Option.bind_some, e]
    exact ih (i + 1) (by omega) (by omega)
theorem eqPlateS_ev (l : List S32) (hl : l.length ≤ 1000000000000) : Ev (fun k => laws_eqPlateS.f k l l) true := by
  unfold laws_eqPlateS.f
  simp only [if_true]
  exact eqPlateS_loop l hl l.length 0 (by omega) (by omega)
theorem sz_big (l : List S30) (hl : l.length * 16 ≤ 140737488351232) (c : 1048576 < l.length) : laws_szPlateS.f l 1048576 = some (-1) := by
  unfold laws_szPlateS.f
  rw [M.w64 (x := 1048576 - (l.length : Int)) (by omega) (by omega), if_pos (by omega)]
theorem sz_small (l : List S30) (c : ¬ 1048576 < l.length) : laws_szPlateS.f l 1048576 = some (1048576 - (l.length : Int)) := by
  unfold laws_szPlateS.f
  rw [M.w64 (x := 1048576 - (l.length : Int)) (by omega) (by omega), if_neg (by omega)]
def laws_FnExactPlatesText.Pure : Prop := ∀ (l0 : List S30), (∀ x ∈ l0, (Lit.int .i64 x.f0).wf = true ∧ (Lit.int .i64 x.f1).wf = true) → l0.length * 16 ≤ 140737488351232 → ∃ k, laws_FnExactPlatesText.f k l0 = some true
theorem FnExactPlatesText : laws_FnExactPlatesText.Pure := by
  intro l _ hl
  refine Ev.rounds (r := true) ?_
  unfold laws_FnExactPlatesText.f
  by_cases c : 1048576 < l.length
  · simp only [sz_big l hl c, Option.bind_some]; exact M.Ev_some fun k => rfl
  · simp only [sz_small l c, Option.bind_some, show ¬ ((1048576 : Int) - (l.length : Int) < 0) by omega, if_false]
    have hc : (conv l).length ≤ 1000000000000 := by rw [conv_length]; omega
    obtain ⟨r, h1, h2⟩ := PlatesText_ev (conv l) hc
    have ht := toPlateS_ev l (by omega)
    refine Ev.bind ht (Ev.bind h1 (Ev.bind ht (Ev.bind h2 ?_)))
    simp only [if_true, bne_self_eq_false]
    refine M.Ev_succ ?_
    simp only [laws_FnExactPlatesText.j0, Bool.false_eq_true, if_false]
    refine Ev.bind ht (Ev.bind (eqPlateS_ev (conv l) hc) (M.Ev_some fun k => ?_))
    simp only [if_true]

end Go.Proofs.YtflifmlgpndjjaaDoor.Pure
