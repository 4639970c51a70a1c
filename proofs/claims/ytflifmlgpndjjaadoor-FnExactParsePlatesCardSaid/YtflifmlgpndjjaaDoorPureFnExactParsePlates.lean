/- The program's ParsePlates and the reference's answer the same for all texts, and the result shares no memory: no further condition. -/
import Derived.Test.YtflifmlgpndjjaaDoorM
import Derived.Test.YtflifmlgpndjjaaDoorPFnExactParsePlatesx11
import Derived.Lib.SplitLaws
namespace Go.Proofs.YtflifmlgpndjjaaDoor.Pure
open Go.RowKit Go.Proofs.YtflifmlgpndjjaaDoor.PFnExactParsePlates Go.Proofs.YtflifmlgpndjjaaDoorW.PrintWords Go.Proofs.YtflifmlgpndjjaaDoorW.PrintLast Go.Proofs.YtflifmlgpndjjaaDoorW.PrintMore
set_option linter.unusedVariables false
set_option linter.unusedSimpArgs false
/-- The pieces of a text between the commas; cur: what stands ahead in the first piece. -/
def sp (cur : List UInt8) : List UInt8 → List (List UInt8)
  | [] => [cur]
  | c :: l => if c = 44 then cur :: sp [] l else sp (cur ++ [c]) l
theorem sp_total : ∀ (l cur : List UInt8), ((sp cur l).map (fun x => x.length + 1)).sum = cur.length + l.length + 1
  | [], cur => by simp [sp]
  | c :: l, cur => by
    simp only [sp]
    split
    · simp [sp_total l []]; omega
    · rw [sp_total l (cur ++ [c])]; simp; omega
theorem splitK_sp : ∀ (l cur : List UInt8), ∃ h t, Lib.splitK [44] 0 (Lib.count l [44]) l = h :: t ∧ sp cur l = (cur ++ h) :: t
  | [], cur => ⟨[], [], by simp [Lib.count, Lib.countFrom, Lib.index, Lib.splitK], by simp [sp]⟩
  | c :: l, cur => by
    by_cases hc : c = 44
    · subst hc
      have hi : Lib.index (44 :: l) [44] = (0 : Nat) := by simp [Lib.index]
      obtain ⟨h, t, h1, h2⟩ := splitK_sp l []
      refine ⟨[], h :: t, ?_, ?_⟩
      · rw [Lib.count_hit (by simp) hi, Nat.add_comm 1, Lib.splitK]
        simp [hi, h1]
      · simp only [sp, if_true, List.append_nil]
        rw [h2]
        simp
    · obtain ⟨h, t, h1, h2⟩ := splitK_sp l (cur ++ [c])
      have hcount : Lib.count (c :: l) [44] = Lib.count l [44] := Lib.count_cons_ne c 44 l hc
      have hpre : ([44] : List UInt8).isPrefixOf (c :: l) = false := by
        simp [List.isPrefixOf]
        intro e
        exact hc e.symm
      have hs : sp cur (c :: l) = sp (cur ++ [c]) l := by simp only [sp, if_neg hc]
      by_cases hi : Lib.index l [44] = -1
      · have h0 := Lib.count_miss hi
        rw [h0] at h1
        simp only [Lib.splitK, List.cons.injEq] at h1
        obtain ⟨rfl, rfl⟩ := h1
        refine ⟨c :: l, [], ?_, ?_⟩
        · rw [hcount, h0]; rfl
        · rw [hs, h2]; simp
      · obtain ⟨i, hi2⟩ : ∃ i : Nat, Lib.index l [44] = i := ⟨(Lib.index l [44]).toNat, by have := Lib.index_ge l [44]; omega⟩
        have hi3 : Lib.index (c :: l) [44] = ((i + 1 : Nat) : Int) := by
          simp only [Lib.index, hpre, Bool.false_eq_true, if_false, hi2]
          rw [if_neg (by first | (simp; done) | (simp; omega))]
          omega
        have hk := Lib.count_hit (by simp) hi2
        rw [hk, Nat.add_comm 1, Lib.splitK] at h1
        refine ⟨c :: h, t, ?_, ?_⟩
        · rw [hcount, hk, Nat.add_comm 1, Lib.splitK]
          rw [hi2] at h1
          rw [hi3]
          rw [if_neg (by first | (simp; done) | (simp; omega))] at h1 ⊢
          simp only [Int.toNat_natCast, Nat.add_zero, List.length_singleton, List.take_succ_cons, List.cons.injEq, List.drop_succ_cons] at h1 ⊢
          exact ⟨⟨trivial, h1.1⟩, h1.2⟩
        · rw [hs, h2]; simp
theorem bt_byte (s : ByteArray) (i : Nat) (h : i < s.data.toList.length) : bt s (i : Int) = ((s.data.toList[i]).toNat : Int) := by
  have h2 : i < s.size := by rw [Array.length_toList] at h; exact h
  unfold bt
  rw [Int.toNat_natCast, dif_pos h2]
  rfl
theorem l1Split_loop (s : ByteArray) (hs : s.size ≤ 1000000000) : ∀ (d i from_ : Nat) (out : List ByteArray), from_ ≤ i → i ≤ s.size → s.size - i = d → out.length ≤ i → ∃ R, Ev (fun k => spec_l1Split.l0 k s 44 out (from_ : Int) (i : Int)) R ∧ R.map (·.data.toList) = out.map (·.data.toList) ++ sp ((s.data.toList.take i).drop from_) (s.data.toList.drop i) := by
  have hL : s.data.toList.length = s.size := Array.length_toList
  intro d
  induction d with
  | zero =>
    intro i f out hf hi hd ho
    obtain rfl : i = s.size := by omega
    refine ⟨out ++ [s.extract f s.size], M.Ev_succ (M.Ev_some fun k => ?_), ?_⟩
    · simp only [spec_l1Split.l0]
      rw [if_neg (by omega), if_pos (by omega), if_pos (by omega), if_pos (by omega), Int.toNat_natCast]
    · rw [List.map_append, List.map_cons, List.map_nil, ByteArray.data_extract, Array.toList_extract, List.extract_eq_take_drop, List.drop_of_length_le (i := s.size) (by omega), List.take_of_length_le (i := s.size) (by omega)]
      simp only [sp]
      rw [List.take_of_length_le (by rw [List.length_drop]; omega)]
  | succ d ih =>
    intro i f out hf hi hd ho
    have e : wrap64 ((i : Int) + 1) = ((i + 1 : Nat) : Int) := by rw [M.w64 (by omega) (by omega)]; omega
    have hlt : i < s.data.toList.length := by omega
    have hb := bt_byte s i hlt
    have hdrop := List.drop_eq_getElem_cons hlt
    by_cases c : s.data.toList[i] = 44
    · have hb2 : bt s (i : Int) = 44 := by rw [hb, c]; rfl
      obtain ⟨R, h1, h2⟩ := ih (i + 1) (i + 1) (out ++ [s.extract f i]) (by omega) (by omega) (by omega) (by rw [List.length_append]; simp; omega)
      refine ⟨R, M.Ev_succ ?_, ?_⟩
      · simp only [spec_l1Split.l0, show (i : Int) < (s.size : Int) by omega, show (0 : Int) ≤ (i : Int) by omega, if_true, hb2, show (0 : Int) ≤ (f : Int) by omega, show (f : Int) ≤ (i : Int) by omega, show (i : Int) ≤ (s.size : Int) by omega, show out.length < 8796093022208 by omega, Int.toNat_natCast, e]
        exact h1
      · rw [h2, hdrop, List.drop_of_length_le (l := s.data.toList.take (i + 1)) (by rw [List.length_take]; omega)]
        simp only [sp, c, if_true]
        rw [List.map_append, List.map_cons, List.map_nil, ByteArray.data_extract, Array.toList_extract, List.extract_eq_take_drop, List.append_assoc, List.drop_take]
        rfl
    · have hb2 : ¬ bt s (i : Int) = 44 := by
        rw [hb]
        intro z
        apply c
        apply UInt8.toNat_inj.1
        show _ = 44
        omega
      obtain ⟨R, h1, h2⟩ := ih (i + 1) f out (by omega) (by omega) (by omega) (by omega)
      refine ⟨R, M.Ev_succ ?_, ?_⟩
      · simp only [spec_l1Split.l0, show (i : Int) < (s.size : Int) by omega, show (0 : Int) ≤ (i : Int) by omega, if_true, hb2, if_false, e]
        exact h1
      · rw [h2, hdrop]
        simp only [sp, if_neg c]
        rw [List.take_add_one, List.getElem?_eq_getElem hlt, List.drop_append_of_le_length (by rw [List.length_take]; omega)]
        rfl
theorem map_data_inj : ∀ {a b : List ByteArray}, a.map (·.data.toList) = b.map (·.data.toList) → a = b
  | [], [], _ => rfl
  | [], _ :: _, h => by simp at h
  | _ :: _, [], h => by simp at h
  | x :: a, y :: b, h => by
    simp only [List.map_cons, List.cons.injEq] at h
    rw [ByteArray.ext (Array.toList_inj.1 h.1), map_data_inj h.2]
theorem Split_eq (s : ByteArray) (hs : s.size ≤ 1000000000) : ∃ V, strings_Split.f s (⟨#[44]⟩ : ByteArray) = some V ∧ V.map (·.data.toList) = sp [] s.data.toList := by
  unfold strings_Split.f
  refine ⟨_, by rw [if_pos ⟨by omega, by decide⟩], ?_⟩
  rw [Lib.splitB_data]
  obtain ⟨h, t, h1, h2⟩ := splitK_sp s.data.toList []
  rw [show ((⟨#[44]⟩ : ByteArray).data.toList) = [44] from rfl, h2, List.nil_append]
  exact h1
theorem l1Split_ev (s : ByteArray) (hs : s.size ≤ 1000000000) : ∃ V, strings_Split.f s (⟨#[44]⟩ : ByteArray) = some V ∧ Ev (fun k => spec_l1Split.f k s 44) V ∧ V.map (·.data.toList) = sp [] s.data.toList := by
  obtain ⟨V, h1, h2⟩ := Split_eq s hs
  obtain ⟨R, h3, h4⟩ := l1Split_loop s hs s.size 0 0 [] (by omega) (by omega) (by omega) (by simp)
  have : R = V := map_data_inj (by rw [h4, h2]; simp)
  subst this
  exact ⟨R, h1, h3, h2⟩
theorem spec_l1In_eq (a b c : Int) : spec_l1In.f a b c = some (decide (b ≤ a ∧ a ≤ c)) := by
  unfold spec_l1In.f
  by_cases h : a ≥ b
  · rw [if_pos h]; simp [show b ≤ a from h]
  · rw [if_neg h]; simp [show ¬ b ≤ a from h]
theorem impl_within_eq (a b c : Int) : impl_within.f a b c = some (decide (b ≤ a ∧ a ≤ c)) := by
  unfold impl_within.f
  by_cases h : a ≥ b
  · rw [if_pos h]; simp [show b ≤ a from h]
  · rw [if_neg h]; simp [show ¬ b ≤ a from h]
theorem spec_isPlate_eq (n l : Int) : spec_isPlate.f n l = some (M.plateB n l) := by
  unfold spec_isPlate.f M.plateB
  simp only [spec_l1In_eq, Option.bind_some]
  by_cases h : 1 ≤ n ∧ n ≤ 9999 <;> simp [h]
theorem impl_IsPlate_eq (n l : Int) : impl_IsPlate.f n l = some (M.plateB n l) := by
  unfold impl_IsPlate.f M.plateB
  simp only [impl_within_eq, Option.bind_some]
  by_cases h : 1 ≤ n ∧ n ≤ 9999 <;> simp [h]
theorem spec_isRank_eq {n l : Int} (h : M.plateB n l = true) : spec_isRank.f n l = some (M.rank n l) := by
  have h' := M.plateB_iff.1 h
  unfold spec_isRank.f M.rank
  rw [M.w64 (x := 27 * n) (by omega) (by omega), M.w64 (by omega) (by omega), Int.mul_comm]
theorem impl_rankOf_eq {n l : Int} (h : M.plateB n l = true) : impl_rankOf.f n l = some (M.rank n l) := by
  have h' := M.plateB_iff.1 h
  unfold impl_rankOf.f M.rank
  rw [M.w64 (x := n * 27) (by omega) (by omega), M.w64 (by omega) (by omega)]
def pn (l : List S32) (i : Nat) : Int := (rd_T32 l (i : Int)).f0
def pl (l : List S32) (i : Nat) : Int := (rd_T32 l (i : Int)).f1
def prk (l : List S32) (i : Nat) : Int := M.rank (pn l i) (pl l i)
/-- Plates: 1 to 60 of them, each a plate, one behind the other. -/
def Good (l : List S32) : Prop := 1 ≤ l.length ∧ l.length ≤ 60 ∧ (∀ i, i < l.length → M.plateB (pn l i) (pl l i) = true) ∧ ∀ i, i + 1 < l.length → prk l i < prk l (i + 1)
noncomputable instance goodDec (l : List S32) : Decidable (Good l) := Classical.propDecidable _
theorem good_loops (l : List S32) (hl : l.length ≤ 9000000000000000000) : ∀ (d i : Nat), i ≤ l.length → l.length - i = d → (0 < i → M.plateB (pn l (i - 1)) (pl l (i - 1)) = true) →
    ∃ b : Bool, Ev (fun k => spec_isGood.l0 k l l (l.length : Int) (i : Int)) b ∧ Ev (fun k => impl_ArePlates.l0 k l l (l.length : Int) (i : Int)) (b && decide (1 ≤ l.length ∧ l.length ≤ 60)) ∧
      (b = true ↔ (∀ j, i ≤ j → j < l.length → M.plateB (pn l j) (pl l j) = true) ∧ ∀ j, i ≤ j + 1 → j + 1 < l.length → prk l j < prk l (j + 1)) := by
  intro d
  induction d with
  | zero =>
    intro i hi hd hp
    refine ⟨true, M.Ev_succ (M.Ev_some fun k => ?_), M.Ev_succ (M.Ev_some fun k => ?_), ?_⟩
    · simp only [spec_isGood.l0]; rw [if_neg (by omega)]
    · simp only [impl_ArePlates.l0]
      rw [if_neg (by omega), impl_within_eq]
      simp only [Option.bind_some, Bool.true_and, Option.some.injEq, decide_eq_decide]
      omega
    · simp only [true_iff]
      exact ⟨fun j a b => by omega, fun j a b => by omega⟩
  | succ d ih =>
    intro i hi hd hp
    have e : wrap64 ((i : Int) + 1) = ((i + 1 : Nat) : Int) := by rw [M.w64 (by omega) (by omega)]; omega
    have sp : spec_isPlate.f ((rd_T32 l (i : Int)).f0) ((rd_T32 l (i : Int)).f1) = some (M.plateB (pn l i) (pl l i)) := spec_isPlate_eq _ _
    have ip : impl_IsPlate.f ((rd_T32 l (i : Int)).f0) ((rd_T32 l (i : Int)).f1) = some (M.plateB (pn l i) (pl l i)) := impl_IsPlate_eq _ _
    by_cases hc : M.plateB (pn l i) (pl l i) = true
    · have sr : spec_isRank.f ((rd_T32 l (i : Int)).f0) ((rd_T32 l (i : Int)).f1) = some (prk l i) := spec_isRank_eq hc
      have ir : impl_rankOf.f ((rd_T32 l (i : Int)).f0) ((rd_T32 l (i : Int)).f1) = some (prk l i) := impl_rankOf_eq hc
      obtain ⟨b, h1, h2, h3⟩ := ih (i + 1) (by omega) (by omega) (fun _ => by simpa using hc)
      by_cases h0 : i = 0
      · subst h0
        refine ⟨b, M.Ev_succ ?_, M.Ev_succ ?_, ?_⟩
        · simp only [spec_isGood.l0, show ((0 : Nat) : Int) < (l.length : Int) by omega, show (0 : Int) ≤ ((0 : Nat) : Int) by omega, if_true, sp, hc, Option.bind_some, show ¬ (((0 : Nat) : Int) > 0) by omega, if_false, e]
          exact h1
        · simp only [impl_ArePlates.l0, show ((0 : Nat) : Int) < (l.length : Int) by omega, show (0 : Int) ≤ ((0 : Nat) : Int) by omega, if_true, ip, hc, Option.bind_some, show ¬ (((0 : Nat) : Int) > 0) by omega, if_false, e]
          exact h2
        · rw [h3]
          constructor
          · rintro ⟨x, y⟩
            refine ⟨fun j a b => ?_, fun j a b => y j (by omega) b⟩
            by_cases q : j = 0
            · rw [q]; exact hc
            · exact x j (by omega) b
          · rintro ⟨x, y⟩
            exact ⟨fun j a b => x j (by omega) b, fun j a b => y j (by omega) b⟩
      · have hq := hp (by omega)
        have em : wrap64 ((i : Int) - 1) = ((i - 1 : Nat) : Int) := by rw [M.w64 (by omega) (by omega)]; omega
        have sm : spec_isRank.f ((rd_T32 l ((i - 1 : Nat) : Int)).f0) ((rd_T32 l ((i - 1 : Nat) : Int)).f1) = some (prk l (i - 1)) := spec_isRank_eq hq
        have im : impl_rankOf.f ((rd_T32 l ((i - 1 : Nat) : Int)).f0) ((rd_T32 l ((i - 1 : Nat) : Int)).f1) = some (prk l (i - 1)) := impl_rankOf_eq hq
        have ei : i - 1 + 1 = i := by omega
        by_cases hr : prk l (i - 1) < prk l i
        · refine ⟨b, M.Ev_succ ?_, M.Ev_succ ?_, ?_⟩
          · simp only [spec_isGood.l0, show (i : Int) < (l.length : Int) by omega, show (0 : Int) ≤ (i : Int) by omega, if_true, sp, hc, Option.bind_some, show ((i : Int) > 0) by omega, e, em, show (0 : Int) ≤ ((i - 1 : Nat) : Int) by omega, show ((i - 1 : Nat) : Int) < (l.length : Int) by omega, sm, sr, show ¬ (prk l (i - 1) ≥ prk l i) by omega, if_false]
            exact h1
          · simp only [impl_ArePlates.l0, show (i : Int) < (l.length : Int) by omega, show (0 : Int) ≤ (i : Int) by omega, if_true, ip, hc, Option.bind_some, show ((i : Int) > 0) by omega, e, em, show (0 : Int) ≤ ((i - 1 : Nat) : Int) by omega, show ((i - 1 : Nat) : Int) < (l.length : Int) by omega, im, ir, show ¬ (prk l (i - 1) ≥ prk l i) by omega, if_false]
            exact h2
          · rw [h3]
            constructor
            · rintro ⟨x, y⟩
              refine ⟨fun j a b => ?_, fun j a b => ?_⟩
              · by_cases q : j = i
                · rw [q]; exact hc
                · exact x j (by omega) b
              · by_cases q : j + 1 = i
                · have : j = i - 1 := by omega
                  rw [this, ei]; exact hr
                · exact y j (by omega) b
            · rintro ⟨x, y⟩
              exact ⟨fun j a b => x j (by omega) b, fun j a b => y j (by omega) b⟩
        · refine ⟨false, M.Ev_succ (M.Ev_some fun k => ?_), M.Ev_succ (M.Ev_some fun k => ?_), ?_⟩
          · simp only [spec_isGood.l0, show (i : Int) < (l.length : Int) by omega, show (0 : Int) ≤ (i : Int) by omega, if_true, sp, hc, Option.bind_some, show ((i : Int) > 0) by omega, e, em, show (0 : Int) ≤ ((i - 1 : Nat) : Int) by omega, show ((i - 1 : Nat) : Int) < (l.length : Int) by omega, sm, sr, show (prk l (i - 1) ≥ prk l i) by omega]
          · simp only [impl_ArePlates.l0, show (i : Int) < (l.length : Int) by omega, show (0 : Int) ≤ (i : Int) by omega, if_true, ip, hc, Option.bind_some, show ((i : Int) > 0) by omega, e, em, show (0 : Int) ≤ ((i - 1 : Nat) : Int) by omega, show ((i - 1 : Nat) : Int) < (l.length : Int) by omega, im, ir, show (prk l (i - 1) ≥ prk l i) by omega, Bool.false_and]
          · simp only [Bool.false_eq_true, false_iff]
            rintro ⟨x, y⟩
            have := y (i - 1) (by omega) (by omega)
            rw [ei] at this
            exact hr this
    · refine ⟨false, M.Ev_succ (M.Ev_some fun k => ?_), M.Ev_succ (M.Ev_some fun k => ?_), ?_⟩
      · simp only [spec_isGood.l0, show (i : Int) < (l.length : Int) by omega, show (0 : Int) ≤ (i : Int) by omega, if_true, sp, hc, Option.bind_some, Bool.false_eq_true, if_false]
      · simp only [impl_ArePlates.l0, show (i : Int) < (l.length : Int) by omega, show (0 : Int) ≤ (i : Int) by omega, if_true, ip, hc, Option.bind_some, Bool.false_eq_true, if_false, Bool.false_and]
      · simp only [Bool.false_eq_true, false_iff]
        rintro ⟨x, _⟩
        exact hc (x i (by omega) (by omega))
theorem good_both (l : List S32) (hl : l.length ≤ 9000000000000000000) : ∃ b : Bool, Ev (fun k => spec_isGood.f k l) b ∧ Ev (fun k => impl_ArePlates.f k l) b ∧ (b = true ↔ Good l) := by
  obtain ⟨b, h1, h2, h3⟩ := good_loops l hl l.length 0 (by omega) (by omega) (fun h => by omega)
  refine ⟨b && decide (1 ≤ l.length ∧ l.length ≤ 60), ?_, ?_, ?_⟩
  · unfold spec_isGood.f
    rw [spec_l1In_eq]
    simp only [Option.bind_some]
    by_cases c : 1 ≤ l.length ∧ l.length ≤ 60
    · have c' : (1 : Int) ≤ (l.length : Int) ∧ (l.length : Int) ≤ 60 := by omega
      simp only [c, c', and_self, decide_true, if_true, Bool.and_true]
      exact h1
    · have c' : ¬ ((1 : Int) ≤ (l.length : Int) ∧ (l.length : Int) ≤ 60) := by omega
      simp only [c, c', decide_false, Bool.and_false]
      exact M.Ev_some fun k => by simp
  · unfold impl_ArePlates.f; exact h2
  · unfold Good
    simp only [Bool.and_eq_true, decide_eq_true_eq, h3]
    constructor
    · rintro ⟨⟨x, y⟩, a, b⟩
      exact ⟨a, b, fun i h => x i (by omega) h, fun i h => y i (by omega) h⟩
    · rintro ⟨a, b, x, y⟩
      exact ⟨⟨fun i _ h => x i h, fun i _ h => y i h⟩, a, b⟩
theorem spec_l1Num_ev : ∀ (n : Nat), n ≤ 9223372036854775807 → Ev (fun k => spec_l1Num.f k (n : Int)) (strOfNums (M.digs n)) := by
  intro n
  induction n using Nat.strongRecOn with
  | ind n ih =>
    intro hn
    by_cases h : n < 10
    · have e2 : (wrap64 (48 + (n : Int))) % 256 = 48 + (n : Int) := by rw [M.w64 (by omega) (by omega)]; omega
      refine M.Ev_succ (M.Ev_some fun k => ?_)
      simp only [spec_l1Num.f]
      rw [if_pos (by omega), M.digs_small h, e2]
    · have e1 : wrap64 (Int.tdiv (n : Int) 10) = ((n / 10 : Nat) : Int) := by
        rw [M.tdiv_pos (by omega), M.w64 (by omega) (by omega)]; omega
      have e2 : (wrap64 (48 + Int.tmod (n : Int) 10)) % 256 = 48 + ((n % 10 : Nat) : Int) := by
        rw [M.tmod_pos (by omega), M.w64 (by omega) (by omega)]; omega
      refine M.Ev_succ ?_
      simp only [spec_l1Num.f, e1, e2, show ¬ ((n : Int) < 10) by omega, if_false]
      refine Ev.bind (ih (n / 10) (by omega) (by omega)) (M.Ev_some fun k => ?_)
      have hs := M.digs_le20 (n := n / 10) (by omega)
      simp only [Option.bind_some]
      rw [if_pos (by rw [strOfNums_size, strOfNums_size]; simp; omega), M.strOfNums_append, M.digs_big h]
def letT (p : Int) : List Int := if p = 0 then [] else [96 + p]
/-- A plate's text: its number, then its letter, if it has one. -/
def ptx (a b : Int) : List Int := M.digs a.toNat ++ letT b
theorem letter_all : ∀ n : Fin 27, n.val ≠ 0 → ((⟨#[97, 98, 99, 100, 101, 102, 103, 104, 105, 106, 107, 108, 109, 110, 111, 112, 113, 114, 115, 116, 117, 118, 119, 120, 121, 122]⟩ : ByteArray).extract (n.val - 1) n.val).data.toList = [UInt8.ofNat (96 + n.val)] := by decide +kernel
theorem isLetterT_eq {p : Int} (h0 : 0 ≤ p) (h : p ≤ 26) : spec_isLetter.f p (⟨#[]⟩ : ByteArray) = some (strOfNums (letT p)) := by
  unfold spec_isLetter.f letT
  by_cases c : p = 0
  · rw [if_pos c, if_pos c]; rfl
  · obtain ⟨n, rfl⟩ := Int.eq_ofNat_of_zero_le h0
    have e : wrap64 ((n : Int) - 1) = ((n - 1 : Nat) : Int) := by rw [M.w64 (by omega) (by omega)]; omega
    rw [if_neg c, if_neg c, e, if_pos (by omega), if_pos (by omega), if_pos (by omega)]
    congr 1
    apply ByteArray.ext
    apply Array.toList_inj.1
    have := letter_all ⟨n, by omega⟩ (by simpa using c)
    simp only [Int.toNat_natCast]
    rw [this]
    simp only [strOfNums, List.map_cons, List.map_nil]
    congr 2
theorem ptx_length {a b : Int} (h : M.plateB a b = true) : (ptx a b).length ≤ 22 := by
  have hp := M.plateB_iff.1 h
  have := M.digs_le20 (n := a.toNat) (by omega)
  unfold ptx letT
  rw [List.length_append]
  split <;> simp <;> omega
theorem isText_ev {a b : Int} (h : M.plateB a b = true) : Ev (fun k => spec_isText.f k a b) (strOfNums (ptx a b)) := by
  have hp := M.plateB_iff.1 h
  obtain ⟨n, rfl⟩ : ∃ n : Nat, a = n := ⟨a.toNat, by omega⟩
  have hl := ptx_length h
  unfold ptx at hl ⊢
  rw [Int.toNat_natCast] at hl ⊢
  unfold spec_isText.f
  refine Ev.bind (spec_l1Num_ev n (by omega)) (M.Ev_some fun k => ?_)
  rw [isLetterT_eq hp.2.2.1 hp.2.2.2]
  simp only [Option.bind_some]
  rw [if_pos (by rw [strOfNums_size, strOfNums_size, ← List.length_append]; omega), M.strOfNums_append]
theorem decDigits_eq : ∀ (n : Nat), Lib.decDigits n = (M.digs n).map (fun z => UInt8.ofNat z.toNat) := by
  intro n
  induction n using Nat.strongRecOn with
  | ind n ih =>
    by_cases h : n < 10
    · rw [Lib.decDigits, dif_pos h, M.digs_small h]
      simp only [List.map_cons, List.map_nil]
      rw [show (48 + (n : Int)).toNat = 48 + n by omega]
    · rw [Lib.decDigits, dif_neg h, M.digs_big h, ih (n / 10) (by omega)]
      simp only [List.map_append, List.map_cons, List.map_nil]
      rw [show (48 + ((n % 10 : Nat) : Int)).toNat = 48 + n % 10 by omega]
theorem digs_range : ∀ (n : Nat), ∀ z ∈ M.digs n, 48 ≤ z ∧ z ≤ 57 := by
  intro n
  induction n using Nat.strongRecOn with
  | ind n ih =>
    intro z hz
    by_cases h : n < 10
    · rw [M.digs_small h] at hz
      simp at hz
      omega
    · rw [M.digs_big h] at hz
      simp only [List.mem_append, List.mem_singleton] at hz
      rcases hz with hz | hz
      · exact ih (n / 10) (by omega) z hz
      · omega
theorem digs_pos : ∀ (n : Nat), 1 ≤ (M.digs n).length := by
  intro n
  by_cases h : n < 10
  · rw [M.digs_small h]; simp
  · rw [M.digs_big h]; simp
theorem digs_tight : ∀ (j n : Nat), n < 10 ^ (j + 1) → (M.digs n).length ≤ j + 1 := by
  intro j
  induction j with
  | zero => intro n h; rw [M.digs_small (by simpa using h)]; simp
  | succ j ih =>
    intro n h
    by_cases c : n < 10
    · rw [M.digs_small c]; simp
    · rw [M.digs_big c, List.length_append]
      have := ih (n / 10) (by rw [Nat.pow_succ] at h; exact Nat.div_lt_of_lt_mul (by rw [Nat.mul_comm]; exact h))
      simp
      omega
theorem digs_head : ∀ (n : Nat), 1 ≤ n → (M.digs n).getD 0 0 ≠ 48 := by
  intro n
  induction n using Nat.strongRecOn with
  | ind n ih =>
    intro h1
    by_cases h : n < 10
    · rw [M.digs_small h]
      simp
      omega
    · rw [M.digs_big h]
      have hp := digs_pos (n / 10)
      have h2 := ih (n / 10) (by omega) (by omega)
      rw [List.getD_eq_getElem?_getD, List.getElem?_append_left (by omega), ← List.getD_eq_getElem?_getD]
      exact h2
theorem bt_nums (xs : List Int) (hx : ∀ z ∈ xs, 0 ≤ z ∧ z ≤ 255) (i : Nat) (hi : i < xs.length) : bt (strOfNums xs) (i : Int) = xs.getD i 0 := by
  have hs : i < (strOfNums xs).size := by rw [strOfNums_size]; exact hi
  have hz := hx _ (List.getElem_mem hi)
  unfold bt
  rw [Int.toNat_natCast, dif_pos hs]
  have e : (strOfNums xs)[i] = UInt8.ofNat (xs[i]).toNat := by
    show (strOfNums xs).data[i]'hs = _
    rw [← Array.getElem_toList]
    simp only [strOfNums_data, List.getElem_map]
  rw [e, List.getD_eq_getElem?_getD, List.getElem?_eq_getElem hi]
  simp only [Option.getD_some]
  have : (UInt8.ofNat (xs[i]).toNat).toNat = (xs[i]).toNat := by simp; omega
  rw [this]
  omega
def dstep (a d : Int) : Int := 10 * a + (d - 48)
theorem dstep_def (a d : Int) : dstep a d = 10 * a + (d - 48) := rfl
theorem digs_val : ∀ (n : Nat), (M.digs n).foldl dstep 0 = (n : Int) := by
  intro n
  induction n using Nat.strongRecOn with
  | ind n ih =>
    by_cases h : n < 10
    · rw [M.digs_small h]; simp [dstep]; omega
    · rw [M.digs_big h, List.foldl_append, ih (n / 10) (by omega)]
      simp only [List.foldl_cons, List.foldl_nil, dstep]
      omega
theorem l1Read_loop (xs : List Int) (hx : ∀ z ∈ xs, 48 ≤ z ∧ z ≤ 57) (h6 : xs.length ≤ 6) : ∀ (d i : Nat) (v : Int), i ≤ xs.length → xs.length - i = d → 0 ≤ v → v + 1 ≤ (10 ^ i : Nat) → Ev (fun k => spec_l1Read.l0 k (strOfNums xs) v (i : Int)) ((xs.drop i).foldl dstep v) := by
  intro d
  induction d with
  | zero =>
    intro i v hi hd h0 h1
    obtain rfl : i = xs.length := by omega
    refine M.Ev_succ (M.Ev_some fun k => ?_)
    simp only [spec_l1Read.l0]
    rw [if_neg (by rw [strOfNums_size]; omega), List.drop_length]
    rfl
  | succ d ih =>
    intro i v hi hd h0 h1
    have hlt : i < xs.length := by omega
    have hz := hx _ (List.getElem_mem hlt)
    have e : wrap64 ((i : Int) + 1) = ((i + 1 : Nat) : Int) := by rw [M.w64 (by omega) (by omega)]; omega
    have hp : (10 ^ i : Nat) ≤ 10 ^ 6 := Nat.pow_le_pow_right (by omega) (by omega)
    have hp1 : (10 ^ (i + 1) : Nat) = 10 * 10 ^ i := by rw [Nat.pow_succ, Nat.mul_comm]
    have hb : bt (strOfNums xs) (i : Int) = xs[i] := by
      rw [bt_nums xs (fun z h => by have := hx z h; omega) i hlt, List.getD_eq_getElem?_getD, List.getElem?_eq_getElem hlt]
      rfl
    have ev : wrap64 (wrap64 (10 * v) + (xs[i] - 48) % 256) = dstep v xs[i] := by
      unfold dstep
      rw [M.w64 (x := 10 * v) (by omega) (by omega), M.w64 (by omega) (by omega)]
      omega
    have hi2 := ih (i + 1) (dstep v xs[i]) (by omega) (by omega) (by unfold dstep; omega) (by unfold dstep; rw [hp1]; omega)
    refine M.Ev_succ ?_
    simp only [spec_l1Read.l0, strOfNums_size, show (i : Int) < (xs.length : Int) by omega, show (0 : Int) ≤ (i : Int) by omega, if_true, hb, show ¬ (xs[i] < 48) by omega, show ¬ (xs[i] > 57) by omega, if_false, ev, e]
    rw [List.drop_eq_getElem_cons hlt]
    exact hi2
theorem l1Read_total (s : ByteArray) (hs : s.size ≤ 6) : ∀ (d i : Nat) (v : Int), i ≤ s.size → s.size - i = d → ∃ r, Ev (fun k => spec_l1Read.l0 k s v (i : Int)) r := by
  intro d
  induction d with
  | zero =>
    intro i v hi hd
    refine ⟨v, M.Ev_succ (M.Ev_some fun k => ?_)⟩
    simp only [spec_l1Read.l0]
    rw [if_neg (by omega)]
  | succ d ih =>
    intro i v hi hd
    have e : wrap64 ((i : Int) + 1) = ((i + 1 : Nat) : Int) := by rw [M.w64 (by omega) (by omega)]; omega
    by_cases c1 : bt s (i : Int) < 48
    · refine ⟨-1, M.Ev_succ (M.Ev_some fun k => ?_)⟩
      simp only [spec_l1Read.l0, show (i : Int) < (s.size : Int) by omega, show (0 : Int) ≤ (i : Int) by omega, if_true, c1]
    · by_cases c2 : bt s (i : Int) > 57
      · refine ⟨-1, M.Ev_succ (M.Ev_some fun k => ?_)⟩
        simp only [spec_l1Read.l0, show (i : Int) < (s.size : Int) by omega, show (0 : Int) ≤ (i : Int) by omega, if_true, c1, c2, if_false]
      · obtain ⟨r, hr⟩ := ih (i + 1) (wrap64 (wrap64 (10 * v) + (bt s (i : Int) - 48) % 256)) (by omega) (by omega)
        refine ⟨r, M.Ev_succ ?_⟩
        simp only [spec_l1Read.l0, show (i : Int) < (s.size : Int) by omega, show (0 : Int) ≤ (i : Int) by omega, if_true, c1, c2, if_false, e]
        exact hr
theorem l1Read_any (s : ByteArray) (hs : s.size ≤ 1000000000000) : ∃ r, Ev (fun k => spec_l1Read.f k s) r := by
  unfold spec_l1Read.f
  simp only [spec_l1In_eq, Option.bind_some]
  by_cases c : (1 : Int) ≤ (s.size : Int) ∧ (s.size : Int) ≤ 6
  · obtain ⟨r, hr⟩ := l1Read_total s (by omega) s.size 0 0 (by omega) (by omega)
    simp only [decide_eq_true c, if_true, show (0 : Int) < (s.size : Int) by omega]
    by_cases c2 : bt s 0 = 48
    · by_cases c3 : (s.size : Int) > 1
      · simp only [c2, if_true, decide_eq_true c3]
        exact ⟨-1, M.Ev_succ (M.Ev_some fun k => by simp [spec_l1Read.j0])⟩
      · simp only [c2, if_true, decide_eq_false c3]
        exact ⟨r, M.Ev_succ (by simp only [spec_l1Read.j0, Bool.false_eq_true, if_false]; exact hr)⟩
    · simp only [c2, if_false]
      exact ⟨r, M.Ev_succ (by simp only [spec_l1Read.j0, Bool.false_eq_true, if_false]; exact hr)⟩
  · simp only [decide_eq_false c, Bool.false_eq_true, if_false]
    exact ⟨-1, M.Ev_succ (M.Ev_some fun k => by simp [spec_l1Read.j0])⟩
theorem l1Read_digs (n : Nat) (h1 : 1 ≤ n) (h : n ≤ 99999) : Ev (fun k => spec_l1Read.f k (strOfNums (M.digs n))) (n : Int) := by
  have hl := digs_tight 4 n (by omega)
  have hp := digs_pos n
  have hr := l1Read_loop (M.digs n) (digs_range n) (by omega) (M.digs n).length 0 0 (by omega) (by omega) (by omega) (by simp)
  rw [List.drop_zero, digs_val] at hr
  have hb : bt (strOfNums (M.digs n)) 0 = (M.digs n).getD 0 0 := bt_nums (M.digs n) (fun z h => by have := digs_range n z h; omega) 0 (by omega)
  have hh := digs_head n h1
  unfold spec_l1Read.f
  simp only [spec_l1In_eq, Option.bind_some, strOfNums_size, decide_eq_true (show (1 : Int) ≤ ((M.digs n).length : Int) ∧ ((M.digs n).length : Int) ≤ 6 by omega), if_true, show (0 : Int) < ((M.digs n).length : Int) by omega, hb, hh, if_false]
  exact M.Ev_succ (by simp only [spec_l1Read.j0, Bool.false_eq_true, if_false]; exact hr)
theorem parse_snoc : ∀ (L : List UInt8) (acc u : Nat) (c : UInt8), Lib.parseUint10 acc L = .ok u → 48 ≤ c.toNat → c.toNat ≤ 57 → u ≤ 100000000000000000 → Lib.parseUint10 acc (L ++ [c]) = .ok (u * 10 + (c.toNat - 48))
  | [], acc, u, c, h, h1, h2, h3 => by
    simp only [Lib.parseUint10] at h
    injection h with h
    subst h
    simp only [List.nil_append, Lib.parseUint10]
    rw [if_pos ⟨h1, h2⟩, if_neg (by omega), if_neg (by omega)]
  | x :: L, acc, u, c, h, h1, h2, h3 => by
    simp only [Lib.parseUint10, List.cons_append] at h ⊢
    split at h
    · rename_i q1
      rw [if_pos q1]
      split at h
      · cases h
      · rename_i q2
        rw [if_neg q2]
        split at h
        · cases h
        · rename_i q3
          rw [if_neg q3]
          exact parse_snoc L _ u c h h1 h2 h3
    · cases h
theorem u8_toNat (n : Nat) (h : n < 256) : (UInt8.ofNat n).toNat = n := by simp; omega
theorem parse_dec : ∀ (n : Nat), n ≤ 1000000000000000 → Lib.parseUint10 0 (Lib.decDigits n) = .ok n := by
  intro n
  induction n using Nat.strongRecOn with
  | ind n ih =>
    intro hn
    by_cases h : n < 10
    · rw [Lib.decDigits, dif_pos h]
      simp only [Lib.parseUint10]
      rw [u8_toNat _ (by omega), if_pos ⟨by omega, by omega⟩, if_neg (by omega), if_neg (by omega)]
      congr 1
      omega
    · rw [Lib.decDigits, dif_neg h, parse_snoc _ 0 (n / 10) _ (ih (n / 10) (by omega) (by omega)) (by rw [u8_toNat _ (by omega)]; omega) (by rw [u8_toNat _ (by omega)]; omega) (by omega), u8_toNat _ (by omega)]
      congr 1
      omega
theorem dec_range (n : Nat) : ∀ c ∈ Lib.decDigits n, 48 ≤ c.toNat ∧ c.toNat ≤ 57 := by
  intro c hc
  rw [decDigits_eq] at hc
  obtain ⟨z, hz, rfl⟩ := List.mem_map.1 hc
  have := digs_range n z hz
  rw [u8_toNat _ (by omega)]
  omega
theorem atoi_dec (n : Nat) (hn : n ≤ 1000000000000000) : Lib.atoiAll (Lib.decDigits n) = .ok (n : Int) := by
  have hp := parse_dec n hn
  have hr := dec_range n
  have h1 : 1 ≤ (Lib.decDigits n).length := by rw [decDigits_eq, List.length_map]; exact digs_pos n
  cases hd : Lib.decDigits n with
  | nil => rw [hd] at h1; simp at h1
  | cons c r =>
    rw [hd] at hp hr
    have hc := hr c (by simp)
    have n1 : ¬ (c.toNat = 43 ∨ c.toNat = 45) := by omega
    have n2 : ¬ c.toNat = 45 := by omega
    simp only [Lib.atoiAll, Lib.parseMag]
    rw [if_neg n1, if_neg (List.cons_ne_nil c r), hp]
    simp only [n2, not_false_eq_true, true_and, false_and, if_false]
    rw [if_neg (by omega)]
theorem nums_dec (n : Nat) : (strOfNums (M.digs n)).data.toList = Lib.decDigits n := by rw [strOfNums_data, decDigits_eq]
theorem readNumber_digs (n : Nat) (hn : n ≤ 1000000000000) : impl_readNumber.f (strOfNums (M.digs n)) = some ((n : Int), true) := by
  unfold impl_readNumber.f
  have := M.digs_le20 (n := n) (by omega)
  rw [if_pos (by rw [strOfNums_size]; omega), nums_dec, atoi_dec n (by omega)]
  have hi : Lib.itoa (n : Int) = Lib.decDigits n := by rw [Lib.itoa, if_neg (by omega), Int.toNat_natCast]
  simp only [hi, if_true]
theorem readNumber_any (x : ByteArray) (hx : x.size ≤ 1000000000000) : ∃ r, impl_readNumber.f x = some r ∧ (r = (0, false) ∨ r.2 = true ∧ Lib.itoa r.1 = x.data.toList) := by
  unfold impl_readNumber.f
  rw [if_pos (by omega)]
  cases h : Lib.atoiAll x.data.toList with
  | ok v =>
    simp only
    by_cases q : Lib.itoa v = x.data.toList
    · rw [if_pos q]; exact ⟨_, rfl, .inr ⟨rfl, q⟩⟩
    · rw [if_neg q]; exact ⟨_, rfl, .inl rfl⟩
  | _ => exact ⟨_, rfl, .inl rfl⟩
theorem bytes_eq {x y : ByteArray} (h : x.data.toList = y.data.toList) : x = y := ByteArray.ext (Array.toList_inj.1 h)
theorem nums_of_itoa {x : ByteArray} {v : Int} (h0 : 0 ≤ v) (h : Lib.itoa v = x.data.toList) : x = strOfNums (M.digs v.toNat) := by
  refine bytes_eq ?_
  rw [nums_dec, ← h, Lib.itoa, if_neg (by omega)]
theorem cut_last (s : ByteArray) (m : Nat) (h : s.size = m + 1) : s = s.extract 0 m ++ strOfNums [bt s (m : Int)] := by
  have hl : s.data.toList.length = m + 1 := by rw [Array.length_toList]; exact h
  refine bytes_eq ?_
  have hb := bt_range s (m : Int)
  have e : bt s (m : Int) = ((s.data.toList[m]'(by omega)).toNat : Int) := by
    unfold bt
    rw [Int.toNat_natCast, dif_pos (by omega)]
    rfl
  have e2 : UInt8.ofNat (bt s (m : Int)).toNat = s.data.toList[m]'(by omega) := by
    rw [e, Int.toNat_natCast]
    simp
  rw [ByteArray.data_append, Array.toList_append, ByteArray.data_extract, Array.toList_extract, strOfNums_data]
  simp only [List.map_cons, List.map_nil, e2, List.extract_eq_take_drop, List.drop_zero, Nat.sub_zero]
  have e3 : s.data.toList.take (m + 1) = s.data.toList.take m ++ [s.data.toList[m]'(by omega)] := by rw [List.take_add_one, List.getElem?_eq_getElem (by omega)]; rfl
  rw [← e3, List.take_of_length_le (by omega)]
theorem extract_nums (xs : List Int) (c : Int) : (strOfNums (xs ++ [c])).extract 0 xs.length = strOfNums xs := by
  refine bytes_eq ?_
  rw [ByteArray.data_extract, Array.toList_extract, strOfNums_data, strOfNums_data]
  simp [List.extract_eq_take_drop]
/-- s is the text of the plate (n, l). -/
def Spells (s : ByteArray) (n l : Int) : Prop := M.plateB n l = true ∧ s = strOfNums (ptx n l)
theorem toList_iff {x y : ByteArray} : x.toList = y.toList ↔ x = y := by
  constructor
  · intro h
    exact bytes_eq (by simpa [ByteArray.toList_eq] using h)
  · rintro rfl
    rfl
theorem j1_any (x : ByteArray) (n0 l : Int) (hx : x.size ≤ 1000000000000) (h0 : 0 ≤ l) : ∃ r, Ev (fun k => impl_parsePlate.j1 k x n0 l) r ∧ (r = (0, 0, false) ∨ ∃ n : Nat, r = ((n : Int), l, true) ∧ M.plateB n l = true ∧ x = strOfNums (M.digs n)) := by
  obtain ⟨r, h1, h2⟩ := readNumber_any x hx
  rcases h2 with rfl | ⟨h2, h3⟩
  · exact ⟨(0, 0, false), M.Ev_succ (M.Ev_some fun k => by simp [impl_parsePlate.j1, h1]), .inl rfl⟩
  · by_cases hp : M.plateB r.1 l = true
    · have hb := M.plateB_iff.1 hp
      refine ⟨(r.1, l, true), M.Ev_succ (M.Ev_some fun k => ?_), .inr ⟨r.1.toNat, ?_, ?_, nums_of_itoa (by omega) h3⟩⟩
      · simp only [impl_parsePlate.j1, h1, Option.bind_some, h2, if_true, impl_IsPlate_eq, hp]
      · rw [show ((r.1.toNat : Nat) : Int) = r.1 by omega]
      · rw [show ((r.1.toNat : Nat) : Int) = r.1 by omega]; exact hp
    · refine ⟨(0, 0, false), M.Ev_succ (M.Ev_some fun k => ?_), .inl rfl⟩
      simp only [impl_parsePlate.j1, h1, Option.bind_some, h2, if_true, impl_IsPlate_eq, hp, if_false]
      simp
theorem j1_digs (n : Nat) (n0 l : Int) (hp : M.plateB n l = true) : Ev (fun k => impl_parsePlate.j1 k (strOfNums (M.digs n)) n0 l) ((n : Int), l, true) := by
  have hb := M.plateB_iff.1 hp
  refine M.Ev_succ (M.Ev_some fun k => ?_)
  simp only [impl_parsePlate.j1, readNumber_digs n (by omega), Option.bind_some, if_true, impl_IsPlate_eq, hp]
theorem implParse_any (s : ByteArray) (hs : s.size ≤ 100000000) : ∃ r, Ev (fun k => impl_parsePlate.f k s) r ∧ (r = (0, 0, false) ∨ r.2.2 = true ∧ Spells s r.1 r.2.1) := by
  unfold impl_parsePlate.f
  by_cases h0 : s.toList = []
  · exact ⟨(0, 0, false), M.Ev_some fun k => by rw [if_pos h0], .inl rfl⟩
  · have hz : s.size ≠ 0 := by
      intro e
      apply h0
      rw [ByteArray.toList_eq]
      exact List.eq_nil_of_length_eq_zero (by rw [Array.length_toList]; exact e)
    obtain ⟨m, hm⟩ : ∃ m, s.size = m + 1 := ⟨s.size - 1, by omega⟩
    have e1 : wrap64 ((s.size : Int) - 1) = (m : Int) := by rw [M.w64 (by omega) (by omega)]; omega
    have hc := bt_range s (m : Int)
    have hcut := cut_last s m hm
    have hxs : (s.extract 0 m).size ≤ 1000000000000 := by rw [ByteArray.size_extract]; omega
    simp only [if_neg h0, e1, show (0 : Int) ≤ (m : Int) by omega, show (m : Int) < (s.size : Int) by omega, if_true]
    have plain : ∃ r, Ev (fun k => impl_parsePlate.j0 k s (bt s (m : Int)) false 0 0) r ∧ (r = (0, 0, false) ∨ r.2.2 = true ∧ Spells s r.1 r.2.1) := by
      obtain ⟨r, h1, h2⟩ := j1_any s 0 0 (by omega) (by omega)
      refine ⟨r, M.Ev_succ (by simp only [impl_parsePlate.j0, Bool.false_eq_true, if_false]; exact h1), ?_⟩
      rcases h2 with h2 | ⟨n, rfl, h3, h4⟩
      · exact .inl h2
      · refine .inr ⟨rfl, h3, ?_⟩
        simp only [ptx, letT, if_true, List.append_nil, Int.toNat_natCast]
        exact h4
    by_cases c1 : bt s (m : Int) ≥ 97
    · simp only [c1, if_true]
      by_cases c2 : bt s (m : Int) ≤ 122
      · simp only [decide_eq_true c2]
        have e2 : (bt s (m : Int) - 97) % 256 + 1 = bt s (m : Int) - 96 := by omega
        obtain ⟨r, h1, h2⟩ := j1_any (s.extract 0 m) 0 (bt s (m : Int) - 96) hxs (by omega)
        refine ⟨r, M.Ev_succ ?_, ?_⟩
        · simp only [impl_parsePlate.j0, if_true, e1, show (0 : Int) ≤ (m : Int) by omega, show (m : Int) ≤ (s.size : Int) by omega, Int.toNat_natCast, e2]
          exact h1
        · rcases h2 with h2 | ⟨n, rfl, h3, h4⟩
          · exact .inl h2
          · refine .inr ⟨rfl, h3, ?_⟩
            simp only [ptx, letT, Int.toNat_natCast]
            rw [if_neg (by omega), ← M.strOfNums_append, ← h4, show 96 + (bt s (m : Int) - 96) = bt s (m : Int) by omega]
            exact hcut
      · simp only [decide_eq_false c2]
        exact plain
    · simp only [c1, if_false]
      exact plain
theorem ptx_range {n l : Int} (h : M.plateB n l = true) : ∀ z ∈ ptx n l, 0 ≤ z ∧ z ≤ 255 := by
  have hb := M.plateB_iff.1 h
  intro z hz
  unfold ptx letT at hz
  rw [List.mem_append] at hz
  rcases hz with hz | hz
  · have := digs_range n.toNat z hz
    omega
  · split at hz
    · cases hz
    · simp at hz
      omega
theorem implParse_spells {s : ByteArray} {n l : Int} (h : Spells s n l) : Ev (fun k => impl_parsePlate.f k s) (n, l, true) := by
  obtain ⟨hp, rfl⟩ := h
  have hb := M.plateB_iff.1 hp
  obtain ⟨n, rfl⟩ : ∃ m : Nat, n = m := ⟨n.toNat, by omega⟩
  have hr := ptx_range hp
  have hl := ptx_length hp
  have hd := digs_pos n
  have hsz : (strOfNums (ptx n l)).size = (ptx n l).length := strOfNums_size _
  have h1 : 1 ≤ (ptx n l).length := by unfold ptx; rw [List.length_append, Int.toNat_natCast]; omega
  obtain ⟨m, hm⟩ : ∃ m, (ptx n l).length = m + 1 := ⟨(ptx n l).length - 1, by omega⟩
  have h0 : ¬ (strOfNums (ptx n l)).toList = [] := by
    rw [ByteArray.toList_eq, strOfNums_data]
    intro e
    have := congrArg List.length e
    rw [List.length_map, hm] at this
    simp at this
  have e1 : wrap64 (((strOfNums (ptx n l)).size : Int) - 1) = (m : Int) := by rw [hsz, M.w64 (by omega) (by omega)]; omega
  have hbt := bt_nums (ptx n l) hr m (by omega)
  unfold impl_parsePlate.f
  simp only [if_neg h0, e1, show (0 : Int) ≤ (m : Int) by omega, show (m : Int) < ((strOfNums (ptx n l)).size : Int) by rw [hsz]; omega, if_true, hbt]
  by_cases c : l = 0
  · subst c
    have hx : ptx n 0 = M.digs n := by simp [ptx, letT]
    have hz : (ptx n 0).getD m 0 ≤ 57 := by
      rw [hx] at hm ⊢
      rw [List.getD_eq_getElem?_getD, List.getElem?_eq_getElem (by omega)]
      exact (digs_range n _ (List.getElem_mem (by omega))).2
    simp only [show ¬ ((ptx n 0).getD m 0 ≥ 97) by omega, if_false]
    refine M.Ev_succ ?_
    simp only [impl_parsePlate.j0, Bool.false_eq_true, if_false]
    rw [hx]
    exact j1_digs n 0 0 hp
  · have hx : ptx n l = M.digs n ++ [96 + l] := by simp [ptx, letT, c]
    have hmd : m = (M.digs n).length := by rw [hx, List.length_append] at hm; simp at hm; omega
    have hz : (ptx n l).getD m 0 = 96 + l := by
      rw [hx, hmd, List.getD_eq_getElem?_getD, List.getElem?_append_right (by omega)]
      simp
    simp only [hz, show 96 + l ≥ 97 by omega, if_true, decide_eq_true (show 96 + l ≤ 122 by omega)]
    refine M.Ev_succ ?_
    have e2 : (96 + l - 97) % 256 + 1 = l := by omega
    simp only [impl_parsePlate.j0, if_true, e1, show (0 : Int) ≤ (m : Int) by omega, show (m : Int) ≤ ((strOfNums (ptx n l)).size : Int) by rw [hsz]; omega, Int.toNat_natCast, e2]
    rw [hx, hmd, extract_nums]
    exact j1_digs n 0 l hp
theorem specParse_any (s : ByteArray) (hs : s.size ≤ 100000000) : ∃ r : Int × Int × Bool, Ev (fun k => spec_isParse.f k s) r ∧ (r.2.2 = true → Spells s r.1 r.2.1) := by
  unfold spec_isParse.f
  simp only [spec_l1In_eq, Option.bind_some]
  by_cases c : (1 : Int) ≤ (s.size : Int) ∧ (s.size : Int) ≤ 5
  · obtain ⟨m, hm⟩ : ∃ m, s.size = m + 1 := ⟨s.size - 1, by omega⟩
    have e1 : wrap64 ((s.size : Int) - 1) = (m : Int) := by rw [M.w64 (by omega) (by omega)]; omega
    have hc := bt_range s (m : Int)
    have e2 : wrap64 (wrap64 (wrap64 (bt s (m : Int)) - 97) + 1) = bt s (m : Int) - 96 := by rw [M.w64 (x := bt s (m : Int)) (by omega) (by omega), M.w64 (x := bt s (m : Int) - 97) (by omega) (by omega), M.w64 (by omega) (by omega)]; omega
    obtain ⟨v0, hv0⟩ := l1Read_any s (by omega)
    obtain ⟨v1, hv1⟩ := l1Read_any (s.extract 0 m) (by rw [ByteArray.size_extract]; omega)
    simp only [decide_eq_true c, if_true, e1, show (0 : Int) ≤ (m : Int) by omega, show (m : Int) < (s.size : Int) by omega, e2, show (m : Int) ≤ (s.size : Int) by omega, Int.toNat_natCast]
    have done : ∀ (v l : Int) (x : ByteArray), Ev (fun k => spec_l1Read.f k x) v → ∃ r : Int × Int × Bool, Ev (fun k => (spec_l1Read.f k x).bind fun t => (spec_isPlate.f t l).bind fun t1 => (if t1 = true then ((spec_isText.f k t l).bind fun t2 => (some (t, l, (t2.toList == s.toList)))) else (some (t, l, false)))) r ∧ (r.2.2 = true → Spells s r.1 r.2.1) := by
      intro v l x hv
      by_cases hp : M.plateB v l = true
      · refine ⟨(v, l, ((strOfNums (ptx v l)).toList == s.toList)), Ev.bind hv ?_, fun h => ⟨hp, ?_⟩⟩
        · simp only [spec_isPlate_eq, hp, Option.bind_some, if_true]
          exact Ev.bind (isText_ev hp) (M.Ev_some fun k => rfl)
        · exact (toList_iff.1 (by simpa using h)).symm
      · refine ⟨(v, l, false), Ev.bind hv (M.Ev_some fun k => ?_), fun h => by cases h⟩
        simp only [spec_isPlate_eq, hp, Option.bind_some]
        simp
    by_cases c2 : (1 : Int) ≤ bt s (m : Int) - 96 ∧ bt s (m : Int) - 96 ≤ 26
    · obtain ⟨r, h1, h2⟩ := done v1 (bt s (m : Int) - 96) (s.extract 0 m) hv1
      refine ⟨r, Ev.bind hv0 ?_, h2⟩
      simp only [decide_eq_true c2, if_true]
      exact h1
    · have ev : Ev (fun k => (spec_l1Read.f k s).bind fun t => (spec_isPlate.f t 0).bind fun t1 => (if t1 = true then ((spec_isText.f k t 0).bind fun t2 => (some (t, 0, (t2.toList == s.toList)))) else (some (t, 0, false)))) (done v0 0 s hv0).choose := (done v0 0 s hv0).choose_spec.1
      refine ⟨(done v0 0 s hv0).choose, ?_, (done v0 0 s hv0).choose_spec.2⟩
      simp only [decide_eq_false c2, Bool.false_eq_true, if_false]
      exact ev
  · refine ⟨(0, 0, false), M.Ev_some fun k => ?_, fun h => by cases h⟩
    simp only [decide_eq_false c]
    simp
theorem specParse_spells {s : ByteArray} {n l : Int} (h : Spells s n l) : Ev (fun k => spec_isParse.f k s) (n, l, true) := by
  obtain ⟨hp, rfl⟩ := h
  have hb := M.plateB_iff.1 hp
  obtain ⟨n, rfl⟩ : ∃ m : Nat, n = m := ⟨n.toNat, by omega⟩
  have hr := ptx_range hp
  have hd := digs_pos n
  have hd4 := digs_tight 3 n (by omega)
  have hsz : (strOfNums (ptx n l)).size = (ptx n l).length := strOfNums_size _
  have h1 : 1 ≤ (ptx n l).length ∧ (ptx n l).length ≤ 5 := by
    unfold ptx letT
    rw [List.length_append, Int.toNat_natCast]
    split <;> simp <;> omega
  obtain ⟨m, hm⟩ : ∃ m, (ptx n l).length = m + 1 := ⟨(ptx n l).length - 1, by omega⟩
  have e1 : wrap64 (((strOfNums (ptx n l)).size : Int) - 1) = (m : Int) := by rw [hsz, M.w64 (by omega) (by omega)]; omega
  have hbt := bt_nums (ptx n l) hr m (by omega)
  unfold spec_isParse.f
  simp only [spec_l1In_eq, Option.bind_some, decide_eq_true (show (1 : Int) ≤ ((strOfNums (ptx n l)).size : Int) ∧ ((strOfNums (ptx n l)).size : Int) ≤ 5 by rw [hsz]; omega), e1, show (0 : Int) ≤ (m : Int) by omega, show (m : Int) < ((strOfNums (ptx n l)).size : Int) by rw [hsz]; omega, show (m : Int) ≤ ((strOfNums (ptx n l)).size : Int) by rw [hsz]; omega, if_true, hbt, Int.toNat_natCast]
  by_cases c : l = 0
  · subst c
    have hx : ptx n 0 = M.digs n := by simp [ptx, letT]
    have hz : 48 ≤ (ptx n 0).getD m 0 ∧ (ptx n 0).getD m 0 ≤ 57 := by
      rw [hx] at hm ⊢
      rw [List.getD_eq_getElem?_getD, List.getElem?_eq_getElem (by omega)]
      exact digs_range n _ (List.getElem_mem (by omega))
    have e2 : wrap64 (wrap64 (wrap64 ((ptx n 0).getD m 0) - 97) + 1) = (ptx n 0).getD m 0 - 96 := by rw [M.w64 (x := (ptx n 0).getD m 0) (by omega) (by omega), M.w64 (x := (ptx n 0).getD m 0 - 97) (by omega) (by omega), M.w64 (by omega) (by omega)]; omega
    have hv : Ev (fun k => spec_l1Read.f k (strOfNums (ptx n 0))) (n : Int) := by rw [hx]; exact l1Read_digs n (by omega) (by omega)
    refine Ev.bind hv ?_
    simp only [e2, decide_eq_false (show ¬ ((1 : Int) ≤ (ptx n 0).getD m 0 - 96 ∧ (ptx n 0).getD m 0 - 96 ≤ 26) by omega), Bool.false_eq_true, if_false, spec_isPlate_eq, hp, Option.bind_some, if_true]
    refine Ev.bind (isText_ev hp) (M.Ev_some fun k => ?_)
    simp
  · have hx : ptx n l = M.digs n ++ [96 + l] := by simp [ptx, letT, c]
    have hmd : m = (M.digs n).length := by rw [hx, List.length_append] at hm; simp at hm; omega
    have hz : (ptx n l).getD m 0 = 96 + l := by
      rw [hx, hmd, List.getD_eq_getElem?_getD, List.getElem?_append_right (by omega)]
      simp
    have e2 : wrap64 (wrap64 (wrap64 (96 + l) - 97) + 1) = l := by rw [M.w64 (x := 96 + l) (by omega) (by omega), M.w64 (x := 96 + l - 97) (by omega) (by omega), M.w64 (by omega) (by omega)]; omega
    obtain ⟨v0, hv0⟩ := l1Read_any (strOfNums (ptx n l)) (by rw [hsz]; omega)
    have hex : (strOfNums (ptx n l)).extract 0 m = strOfNums (M.digs n) := by rw [hx, hmd, extract_nums]
    refine Ev.bind hv0 ?_
    simp only [hz, e2, decide_eq_true (show (1 : Int) ≤ l ∧ l ≤ 26 by omega), if_true, hex]
    refine Ev.bind (l1Read_digs n (by omega) (by omega)) ?_
    simp only [spec_isPlate_eq, hp, Option.bind_some, if_true]
    refine Ev.bind (isText_ev hp) (M.Ev_some fun k => ?_)
    simp
theorem eqPlate_refl (n l : Int) : laws_eqPlate.f n l n l = some true := by
  unfold laws_eqPlate.f; rw [if_pos rfl, if_pos rfl]
theorem eqPlateS_loop (l : List S32) (hl : l.length ≤ 1000000000000) : ∀ (d i : Nat), i ≤ l.length → l.length - i = d → Ev (fun k => laws_eqPlateS.l0 k l l (i : Int)) true := by
  intro d
  induction d with
  | zero =>
    intro i hi hd
    refine M.Ev_succ (M.Ev_some fun k => ?_)
    simp only [laws_eqPlateS.l0]
    rw [if_neg (by omega)]
  | succ d ih =>
    intro i hi hd
    have e : wrap64 ((i : Int) + 1) = ((i + 1 : Nat) : Int) := by rw [M.w64 (by omega) (by omega)]; omega
    refine M.Ev_succ ?_
    simp only [laws_eqPlateS.l0, show (i : Int) < (l.length : Int) by omega, show (0 : Int) ≤ (i : Int) by omega, if_true, eqPlate_refl, Option.bind_some, e]
    exact ih (i + 1) (by omega) (by omega)
theorem eqPlateS_ev (l : List S32) (hl : l.length ≤ 1000000000000) : Ev (fun k => laws_eqPlateS.f k l l) true := by
  unfold laws_eqPlateS.f
  simp only [if_true]
  exact eqPlateS_loop l hl l.length 0 (by omega) (by omega)
/-- What marking leaves: m, m+1 in the first one, and so on. -/
def runP (m : Int) (n : Nat) : List S32 := (List.range n).map fun (i : Nat) => ⟨m + 2 * (i : Int), m + 2 * (i : Int) + 1⟩
theorem runP_length (m : Int) (n : Nat) : (runP m n).length = n := by simp [runP]
theorem runP_get (m : Int) (n i : Nat) (h : i < (runP m n).length) : (runP m n)[i] = ⟨m + 2 * (i : Int), m + 2 * (i : Int) + 1⟩ := by simp [runP]
theorem rdT_get {l : List S32} {i : Nat} (h : i < l.length) : rd_T32 l (i : Int) = l[i] := by
  unfold rd_T32
  rw [Int.toNat_natCast, List.getD_eq_getElem?_getD, List.getElem?_eq_getElem h]; rfl
theorem markPlateS_loop (n : Nat) (hn : n ≤ 1000000000000) (m : Int) (hm : 0 ≤ m) (hm2 : m ≤ 1000000000000) : ∀ (d i : Nat) (acc : List S32), i ≤ n → n - i = d → acc.length = n → acc.take i = (runP m n).take i →
    Ev (fun k => laws_markPlateS.l0 k acc (m + 2 * (i : Int)) (i : Int)) (m + 2 * (n : Int), runP m n) := by
  intro d
  induction d with
  | zero =>
    intro i acc hi hd ha ht
    obtain rfl : i = n := by omega
    refine M.Ev_succ (M.Ev_some fun k => ?_)
    simp only [laws_markPlateS.l0]
    rw [if_neg (by omega), M.take_all ha (runP_length _ _) ht]
  | succ d ih =>
    intro i acc hi hd ha ht
    have e : wrap64 ((i : Int) + 1) = ((i + 1 : Nat) : Int) := by rw [M.w64 (by omega) (by omega)]; omega
    have e2 : wrap64 (m + 2 * (i : Int) + 1) = m + 2 * (i : Int) + 1 := M.w64 (by omega) (by omega)
    have e3 : wrap64 (m + 2 * (i : Int) + 1 + 1) = m + 2 * ((i + 1 : Nat) : Int) := by rw [M.w64 (by omega) (by omega)]; omega
    refine M.Ev_succ ?_
    simp only [laws_markPlateS.l0, show (i : Int) < (acc.length : Int) by omega, show (0 : Int) ≤ (i : Int) by omega, if_true, e, e2, e3, Int.toNat_natCast, Option.bind_some]
    have hs : ∀ v : S32, rd_T32 (acc.set i v) (i : Int) = v := fun v => by
      rw [rdT_get (by rw [List.length_set]; omega)]; simp
    simp only [hs, List.set_set]
    refine ih (i + 1) _ (by omega) (by omega) (by rw [List.length_set]; exact ha) ?_
    exact M.take_set_succ (by omega) (by rw [runP_length]; omega) ht (by rw [runP_get])
theorem markPlateS_ev (l : List S32) (hl : l.length ≤ 1000000000000) (m : Int) (hm : 0 ≤ m) (hm2 : m ≤ 1000000000000) : Ev (fun k => laws_markPlateS.f k l m) (m + 2 * (l.length : Int), runP m l.length) := by
  unfold laws_markPlateS.f
  have := markPlateS_loop l.length hl m hm hm2 l.length 0 l (by omega) (by omega) rfl (by simp)
  simpa using this
theorem heldPlateS_loop (n : Nat) (hn : n ≤ 1000000000000) (m : Int) (hm : 0 ≤ m) (hm2 : m ≤ 1000000000000) : ∀ (d i : Nat), i ≤ n → n - i = d → Ev (fun k => laws_heldPlateS.l0 k (runP m n) (m + 2 * (i : Int)) (i : Int)) (m + 2 * (n : Int)) := by
  intro d
  induction d with
  | zero =>
    intro i hi hd
    obtain rfl : i = n := by omega
    refine M.Ev_succ (M.Ev_some fun k => ?_)
    simp only [laws_heldPlateS.l0]
    rw [if_neg (by rw [runP_length]; omega)]
  | succ d ih =>
    intro i hi hd
    have e : wrap64 ((i : Int) + 1) = ((i + 1 : Nat) : Int) := by rw [M.w64 (by omega) (by omega)]; omega
    have e2 : wrap64 (m + 2 * (i : Int) + 1) = m + 2 * (i : Int) + 1 := M.w64 (by omega) (by omega)
    have e3 : wrap64 (m + 2 * (i : Int) + 1 + 1) = m + 2 * ((i + 1 : Nat) : Int) := by rw [M.w64 (by omega) (by omega)]; omega
    have hr : rd_T32 (runP m n) (i : Int) = ⟨m + 2 * (i : Int), m + 2 * (i : Int) + 1⟩ := by rw [rdT_get (by rw [runP_length]; omega), runP_get]
    refine M.Ev_succ ?_
    simp only [laws_heldPlateS.l0, show (i : Int) < ((runP m n).length : Int) by rw [runP_length]; omega, show (0 : Int) ≤ (i : Int) by omega, if_true, hr, e, e2, e3]
    exact ih (i + 1) (by omega) (by omega)
theorem heldPlateS_ev (n : Nat) (hn : n ≤ 1000000000000) (m : Int) (hm : 0 ≤ m) (hm2 : m ≤ 1000000000000) : Ev (fun k => laws_heldPlateS.f k (runP m n) m) (m + 2 * (n : Int)) := by
  unfold laws_heldPlateS.f
  have := heldPlateS_loop n hn m hm hm2 n 0 (by omega) (by omega)
  simpa using this
def laws_FnExactParsePlates.Pure : Prop := ∀ (a0 : ByteArray), a0.size ≤ 140737488351232 → ∃ k, laws_FnExactParsePlates.f k a0 = some true
theorem spells_size {s : ByteArray} {n l : Int} (h : Spells s n l) : s.size ≤ 5 := by
  obtain ⟨hp, rfl⟩ := h
  have hb := M.plateB_iff.1 hp
  have hd4 := digs_tight 3 n.toNat (by omega)
  rw [strOfNums_size]
  unfold ptx letT
  rw [List.length_append]
  split <;> simp <;> omega
theorem words_ev (V : List ByteArray) (hV : V.length ≤ 1000000000) (hsz : ∀ x ∈ V, x.size ≤ 100000000) : ∀ (d i : Nat) (acc : List S32), i ≤ V.length → V.length - i = d → acc.length ≤ i → ∃ r : List S32 × Bool, Ev (fun k => spec_ParsePlates.l0 k acc V (V.length : Int) (i : Int)) r ∧ Ev (fun k => impl_ParsePlates.l0 k acc V (V.length : Int) (i : Int)) r ∧ r.1.length ≤ 60 ∧ (r = ([], false) ∨ acc.length + (V.length - i) ≤ 60 ∧ ∀ x ∈ V.drop i, x.size ≤ 5) := by
  intro d
  induction d with
  | zero =>
    intro i acc hi hd ha
    obtain rfl : i = V.length := by omega
    obtain ⟨g, h1, h2, h3⟩ := good_both acc (by omega)
    have sl : ∀ r, (if g = true then some (acc, true) else some (([] : List S32), false)) = some r → Ev (fun k => spec_ParsePlates.l0 k acc V (V.length : Int) (V.length : Int)) r ∧ Ev (fun k => impl_ParsePlates.l0 k acc V (V.length : Int) (V.length : Int)) r := by
      intro r hr
      refine ⟨M.Ev_succ ?_, M.Ev_succ ?_⟩
      · simp only [spec_ParsePlates.l0, show ¬ ((V.length : Int) < (V.length : Int)) by omega, if_false]
        exact Ev.bind h1 (M.Ev_some fun k => hr)
      · simp only [impl_ParsePlates.l0, show ¬ ((V.length : Int) < (V.length : Int)) by omega, if_false]
        exact Ev.bind h2 (M.Ev_some fun k => hr)
    cases g with
    | false => exact ⟨([], false), (sl _ rfl).1, (sl _ rfl).2, by simp, .inl rfl⟩
    | true =>
      have hg : Good acc := h3.1 rfl
      have := hg.2.1
      exact ⟨(acc, true), (sl _ rfl).1, (sl _ rfl).2, this, .inr ⟨by omega, by rw [List.drop_length]; intro x hx; cases hx⟩⟩
  | succ d ih =>
    intro i acc hi hd ha
    have hlt : i < V.length := by omega
    have e : wrap64 ((i : Int) + 1) = ((i + 1 : Nat) : Int) := by rw [M.w64 (by omega) (by omega)]; omega
    have hrd : rdOf ByteArray.empty V (i : Int) = V[i] := by
      unfold rdOf
      rw [Int.toNat_natCast, List.getD_eq_getElem?_getD, List.getElem?_eq_getElem hlt]
      rfl
    have hx5 := hsz _ (List.getElem_mem hlt)
    by_cases hx : ∃ n l, Spells V[i] n l
    · obtain ⟨n, l, hs⟩ := hx
      obtain ⟨r, h1, h2, h3, h4⟩ := ih (i + 1) (acc ++ [⟨n, l⟩]) (by omega) (by omega) (by rw [List.length_append]; simp; omega)
      refine ⟨r, M.Ev_succ ?_, M.Ev_succ ?_, h3, ?_⟩
      · simp only [spec_ParsePlates.l0, show (i : Int) < (V.length : Int) by omega, show (0 : Int) ≤ (i : Int) by omega, if_true, hrd]
        refine Ev.bind (specParse_spells hs) ?_
        simp only [if_true, show acc.length < 8796093022208 by omega, e]
        exact h1
      · simp only [impl_ParsePlates.l0, show (i : Int) < (V.length : Int) by omega, show (0 : Int) ≤ (i : Int) by omega, if_true, hrd]
        refine Ev.bind (implParse_spells hs) ?_
        simp only [if_true, show acc.length < 8796093022208 by omega, e]
        exact h2
      · rcases h4 with h4 | ⟨h4, h5⟩
        · exact .inl h4
        · rw [List.length_append] at h4
          simp at h4
          refine .inr ⟨by omega, ?_⟩
          rw [List.drop_eq_getElem_cons hlt]
          intro x hx
          rcases List.mem_cons.1 hx with rfl | hx
          · exact spells_size hs
          · exact h5 x hx
    · obtain ⟨r, h1, h2⟩ := specParse_any V[i] hx5
      obtain ⟨q, h3, h4⟩ := implParse_any V[i] hx5
      have e1 : ¬ r.2.2 = true := fun z => hx ⟨_, _, h2 z⟩
      have e2 : q = (0, 0, false) := by
        rcases h4 with h4 | ⟨_, h4⟩
        · exact h4
        · exact absurd ⟨_, _, h4⟩ hx
      subst e2
      refine ⟨([], false), M.Ev_succ ?_, M.Ev_succ ?_, by simp, .inl rfl⟩
      · simp only [spec_ParsePlates.l0, show (i : Int) < (V.length : Int) by omega, show (0 : Int) ≤ (i : Int) by omega, if_true, hrd]
        exact Ev.bind h1 (M.Ev_some fun k => by rw [if_neg e1])
      · simp only [impl_ParsePlates.l0, show (i : Int) < (V.length : Int) by omega, show (0 : Int) ≤ (i : Int) by omega, if_true, hrd]
        exact Ev.bind h3 (M.Ev_some fun k => by simp)
theorem sum_le (V : List ByteArray) (h : ∀ x ∈ V, x.size ≤ 5) : ((V.map (·.data.toList)).map (fun x => x.length + 1)).sum ≤ 6 * V.length := by
  induction V with
  | nil => simp
  | cons x V ih =>
    have h1 := ih (fun y hy => h y (by simp [hy]))
    have h2 : x.data.toList.length ≤ 5 := by rw [Array.length_toList]; exact h x (by simp)
    simp only [List.map_cons, List.sum_cons, List.length_cons]
    omega
theorem sum_ge (V : List ByteArray) : (∀ x ∈ V, x.size + 1 ≤ ((V.map (·.data.toList)).map (fun x => x.length + 1)).sum) ∧ V.length ≤ ((V.map (·.data.toList)).map (fun x => x.length + 1)).sum := by
  induction V with
  | nil => simp
  | cons x V ih =>
    have hx : x.data.toList.length = x.size := Array.length_toList
    simp only [List.map_cons, List.sum_cons, List.length_cons]
    refine ⟨fun y hy => ?_, by omega⟩
    rcases List.mem_cons.1 hy with rfl | hy
    · omega
    · have := ih.1 y hy
      omega
/-- ParsePlates: both come to the same. -/
theorem ParsePlates_ev (s : ByteArray) (hs : s.size ≤ 1048576) : ∃ r : List S32 × Bool, Ev (fun k => spec_ParsePlates.f k s) r ∧ Ev (fun k => impl_ParsePlates.f k s) r ∧ r.1.length ≤ 60 := by
  obtain ⟨V, h1, h2, h3⟩ := l1Split_ev s (by omega)
  have ht : ((V.map (·.data.toList)).map (fun x => x.length + 1)).sum = s.size + 1 := by
    rw [h3, sp_total]
    simp [Array.length_toList]
  obtain ⟨g1, g2⟩ := sum_ge V
  rw [ht] at g1 g2
  obtain ⟨r, r1, r2, r3, r4⟩ := words_ev V (by omega) (fun x hx => by have := g1 x hx; omega) V.length 0 [] (by omega) (by omega) (by simp)
  unfold spec_ParsePlates.f impl_ParsePlates.f
  simp only [h1, Option.bind_some]
  refine ⟨r, ?_, r2, r3⟩
  by_cases c : (s.size : Int) > 360
  · simp only [c, if_true]
    have : r = ([], false) := by
      rcases r4 with r4 | ⟨r4, r5⟩
      · exact r4
      · have := sum_le V (by rw [List.drop_zero] at r5; exact r5)
        simp at r4
        omega
    rw [this]
    exact M.Ev_some fun k => rfl
  · simp only [c, if_false]
    exact Ev.bind h2 r1
theorem FnExactParsePlates : laws_FnExactParsePlates.Pure := by
  intro s _
  refine Ev.rounds (r := true) ?_
  unfold laws_FnExactParsePlates.f
  by_cases c : (s.size : Int) > 1048576
  · exact M.Ev_some fun k => by rw [if_pos c]
  · simp only [if_neg c]
    obtain ⟨r, h1, h2, hr⟩ := ParsePlates_ev s (by omega)
    refine Ev.bind h1 (Ev.bind h2 (Ev.bind (eqPlateS_ev r.1 (by omega)) ?_))
    simp only [if_true, bne_self_eq_false]
    refine M.Ev_succ ?_
    simp only [laws_FnExactParsePlates.j0, Bool.false_eq_true, if_false]
    refine Ev.bind (markPlateS_ev r.1 (by omega) 1 (by omega) (by omega)) (Ev.bind (heldPlateS_ev r.1.length (by omega) 1 (by omega) (by omega)) ?_)
    simp only [show ¬ ((1 : Int) + 2 * (r.1.length : Int) < 0) by omega, if_false, if_true]
    refine Ev.bind h2 (Ev.bind (eqPlateS_ev r.1 (by omega)) ?_)
    simp only [if_true, bne_self_eq_false]
    refine M.Ev_succ ?_
    simp only [laws_FnExactParsePlates.j1, Bool.false_eq_true, if_false]
    refine Ev.bind (heldPlateS_ev r.1.length (by omega) 1 (by omega) (by omega)) (M.Ev_some fun k => ?_)
    rw [if_neg (by omega), if_pos rfl]

end Go.Proofs.YtflifmlgpndjjaaDoor.Pure
