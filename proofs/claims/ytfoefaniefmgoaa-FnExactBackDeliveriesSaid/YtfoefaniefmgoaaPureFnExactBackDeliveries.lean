/- The program's BackDeliveries and the reference's answer the same for all texts: no further condition. -/
import Derived.Test.YtfoefaniefmgoaaM
import Derived.Test.YtfoefaniefmgoaaPFnExactBackDeliveriesx2
namespace Go.Proofs.Ytfoefaniefmgoaa.Pure
open Go.RowKit Go.Proofs.Ytfoefaniefmgoaa.PFnExactBackDeliveries Go.Proofs.YtfoefaniefmgoaaW.PrintWords Go.Proofs.YtfoefaniefmgoaaW.PrintLast Go.Proofs.YtfoefaniefmgoaaW.PrintMore
set_option linter.unusedVariables false
set_option linter.unusedSimpArgs false
theorem spec_l1In_eq (a b c : Int) : spec_l1In.f a b c = some (decide (b ≤ a ∧ a ≤ c)) := by
  unfold spec_l1In.f
  by_cases h : a ≥ b
  · rw [if_pos h]; simp [show b ≤ a from h]
  · rw [if_neg h]; simp [show ¬ b ≤ a from h]
theorem impl_within_eq (a b c : Int) : impl_within.f a b c = some (decide (b ≤ a ∧ a ≤ c)) := by
  unfold impl_within.f
  by_cases h : a ≥ b
  · rw [if_pos h]; simp [show b ≤ a from h]
  · rw [if_neg h]; simp [show ¬ b ≤ a from h]
theorem idx_all : ∀ n : Fin 256, (Lib.indexByte [108, 114, 98, 45] n.val.toUInt8 < 0) = decide (¬ (n.val = 108 ∨ n.val = 114 ∨ n.val = 98 ∨ n.val = 45)) := by decide +kernel
theorem idx (c : Int) (h0 : 0 ≤ c) (h : c ≤ 255) : ∃ v, strings_IndexByte.f (⟨#[108, 114, 98, 45]⟩ : ByteArray) c = some v ∧ (v < 0 ↔ ¬ (c = 108 ∨ c = 114 ∨ c = 98 ∨ c = 45)) := by
  obtain ⟨n, rfl⟩ := Int.eq_ofNat_of_zero_le h0
  refine ⟨_, rfl, ?_⟩
  have := idx_all ⟨n, by omega⟩
  have e : ((⟨#[108, 114, 98, 45]⟩ : ByteArray).data.toList) = [108, 114, 98, 45] := rfl
  rw [e, Int.toNat_natCast]
  simp only at this
  rw [this]
  simp only [decide_eq_true_eq]
  omega
/-- A sign of deliveries. -/
def isD (c : Int) : Prop := c = 108 ∨ c = 114 ∨ c = 98 ∨ c = 45
instance (c : Int) : Decidable (isD c) := by unfold isD; infer_instance
theorem good_loops (s : ByteArray) (hs : s.size ≤ 9000000000000000000) : ∀ (d i : Nat), i ≤ s.size → s.size - i = d →
    ∃ b : Bool, Ev (fun k => spec_poGood.l0 k s (i : Int)) b ∧ Ev (fun k => impl_AreDeliveries.l0 k s (s.size : Int) (i : Int)) (b && decide (1 ≤ s.size ∧ s.size ≤ 60)) ∧ (b = true ↔ ∀ j : Nat, i ≤ j → j < s.size → isD (bt s j)) := by
  intro d
  induction d with
  | zero =>
    intro i hi hd
    refine ⟨true, M.Ev_succ (M.Ev_some fun k => ?_), M.Ev_succ (M.Ev_some fun k => ?_), ?_⟩
    · simp only [spec_poGood.l0]; rw [if_neg (by omega)]
    · simp only [impl_AreDeliveries.l0]
      rw [if_neg (by omega), impl_within_eq]
      simp only [Option.bind_some, Bool.true_and, Option.some.injEq, decide_eq_decide]
      omega
    · simp; intro j h1 h2; omega
  | succ d ih =>
    intro i hi hd
    obtain ⟨b, h1, h2, h3⟩ := ih (i + 1) (by omega) (by omega)
    have hb := bt_range s i
    have e : wrap64 ((i : Int) + 1) = ((i + 1 : Nat) : Int) := by rw [M.w64 (by omega) (by omega)]; omega
    obtain ⟨v, hv, hv2⟩ := idx (bt s i) hb.1 hb.2
    by_cases hc : isD (bt s i)
    · refine ⟨b, ?_, ?_, ?_⟩
      · refine M.Ev_succ ?_
        simp only [spec_poGood.l0, show (i : Int) < (s.size : Int) by omega, show (0 : Int) ≤ (i : Int) by omega, if_true, e]
        by_cases a1 : bt s i = 108
        · simp only [a1, if_true]; exact h1
        · by_cases a2 : bt s i = 114
          · simp only [a1, a2, if_true, if_false]; exact h1
          · by_cases a3 : bt s i = 98
            · simp only [a1, a2, a3, if_true, if_false]; exact h1
            · by_cases a4 : bt s i = 45
              · simp only [a1, a2, a3, a4, if_true, if_false]; exact h1
              · unfold isD at hc; omega
      · refine M.Ev_succ ?_
        have hn : ¬ v < 0 := fun z => (hv2.1 z) hc
        simp only [impl_AreDeliveries.l0, show (i : Int) < (s.size : Int) by omega, show (0 : Int) ≤ (i : Int) by omega, if_true, hv, Option.bind_some, hn, if_false, e]
        exact h2
      · rw [h3]
        constructor
        · intro h j a b
          by_cases q : j = i
          · rw [q]; exact hc
          · exact h j (by omega) b
        · exact fun h j a b => h j (by omega) b
    · refine ⟨false, ?_, ?_, ?_⟩
      · refine M.Ev_succ (M.Ev_some fun k => ?_)
        unfold isD at hc
        simp only [spec_poGood.l0]
        rw [if_pos (by omega), if_pos (by omega), if_neg (by omega), if_neg (by omega), if_neg (by omega), if_neg (by omega)]
      · refine M.Ev_succ (M.Ev_some fun k => ?_)
        have hn : v < 0 := hv2.2 hc
        simp only [impl_AreDeliveries.l0]
        rw [if_pos (by omega), if_pos (by omega), if_pos (by omega), hv]
        simp only [Option.bind_some]
        rw [if_pos hn]; simp
      · simp only [Bool.false_eq_true, false_iff]
        intro h
        exact hc (h i (by omega) (by omega))
/-- The text is one of deliveries: both say so, or neither does. -/
def GoodText (s : ByteArray) : Prop := 1 ≤ s.size ∧ s.size ≤ 60 ∧ ∀ j : Nat, j < s.size → isD (bt s j)
theorem good_both (s : ByteArray) (hs : s.size ≤ 9000000000000000000) : ∃ b : Bool, Ev (fun k => spec_poGood.f k s) b ∧ Ev (fun k => impl_AreDeliveries.f k s) b ∧ (b = true ↔ GoodText s) := by
  obtain ⟨b, h1, h2, h3⟩ := good_loops s hs s.size 0 (by omega) (by omega)
  refine ⟨b && decide (1 ≤ s.size ∧ s.size ≤ 60), ?_, ?_, ?_⟩
  · unfold spec_poGood.f
    rw [spec_l1In_eq]
    simp only [Option.bind_some]
    by_cases c : 1 ≤ s.size ∧ s.size ≤ 60
    · have c' : (1 : Int) ≤ (s.size : Int) ∧ (s.size : Int) ≤ 60 := by omega
      simp only [c, c', and_self, decide_true, if_true, Bool.and_true]
      exact h1
    · have c' : ¬ ((1 : Int) ≤ (s.size : Int) ∧ (s.size : Int) ≤ 60) := by omega
      simp only [c, c', decide_false, Bool.and_false]
      exact M.Ev_some fun k => by simp
  · unfold impl_AreDeliveries.f; exact h2
  · unfold GoodText
    simp only [Bool.and_eq_true, decide_eq_true_eq, h3]
    constructor
    · rintro ⟨a, b, c⟩; exact ⟨b, c, fun j hj => a j (by omega) hj⟩
    · rintro ⟨a, b, c⟩; exact ⟨fun j _ hj => c j hj, a, b⟩
theorem bytesOf_get {s : ByteArray} {j : Nat} (h : j < s.size) : (bytesOf s)[j]'(by rw [bytesOf_length]; exact h) = bt s (j : Int) := by
  rw [← rd_bytesOf, M.rd_get]
theorem one_byte (s : ByteArray) (j : Nat) (h : j < s.size) : s.extract j (j + 1) = strOfNums [bt s (j : Int)] := by
  apply ByteArray.ext
  rw [ByteArray.data_extract]
  have hd : j < s.data.size := h
  have e : bt s (j : Int) = ((s.data[j]).toNat : Int) := by
    have := bt_at s (j : Int) (by simpa using h)
    rw [← this]
    rfl
  apply Array.ext
  · simp [strOfNums]; omega
  · intro i h1 h2
    have hi : i = 0 := by simp [strOfNums] at h2; omega
    subst hi
    simp [strOfNums, e]
theorem back_loop (s : ByteArray) (hs : s.size ≤ 1000000) : ∀ (j : Nat), j ≤ s.size → ∀ acc : ByteArray, acc = strOfNums ((bytesOf s).drop j).reverse → Ev (fun k => spec_BackDeliveries.l0 k s acc ((j : Int) - 1)) (strOfNums (bytesOf s).reverse, true) := by
  intro j
  induction j with
  | zero =>
    intro hj acc ha
    refine M.Ev_succ (M.Ev_some fun k => ?_)
    simp only [spec_BackDeliveries.l0]
    rw [if_neg (by omega), ha, List.drop_zero]
  | succ j ih =>
    intro hj acc ha
    have e0 : (((j + 1 : Nat) : Int) - 1) = (j : Int) := by omega
    have e1 : wrap64 ((j : Int) + 1) = ((j + 1 : Nat) : Int) := by rw [M.w64 (by omega) (by omega)]; omega
    have e2 : wrap64 ((j : Int) - 1) = (j : Int) - 1 := M.w64 (by omega) (by omega)
    have hsz : acc.size ≤ 1000000 := by
      rw [ha, strOfNums_size, List.length_reverse, List.length_drop, bytesOf_length]; omega
    have hb : (s.extract j (j + 1)).size ≤ 1 := by rw [one_byte s j (by omega), strOfNums_size]; simp
    rw [e0]
    refine M.Ev_succ ?_
    simp only [spec_BackDeliveries.l0, show (j : Int) ≥ 0 by omega, if_true, e1, e2, Int.toNat_natCast, show (j : Int) ≤ ((j + 1 : Nat) : Int) by omega, show ((j + 1 : Nat) : Int) ≤ (s.size : Int) by omega, show acc.size + (s.extract j (j + 1)).size ≤ 9223372036854775807 by omega]
    refine ih (by omega) _ ?_
    rw [ha, one_byte s j (by omega), M.strOfNums_append]
    have hl : j < (bytesOf s).length := by rw [bytesOf_length]; omega
    rw [List.drop_eq_getElem_cons hl, List.reverse_cons, bytesOf_get (by omega)]
theorem FnExactBackDeliveries : laws_FnExactBackDeliveries.Pure := by
  intro s hs
  refine Ev.rounds (r := true) ?_
  unfold laws_FnExactBackDeliveries.f
  by_cases c : (s.size : Int) > 1048576
  · simp only [c, if_true]; exact M.Ev_some fun k => rfl
  · simp only [c, if_false]
    obtain ⟨b, h1, h2, h3⟩ := good_both s (by omega)
    unfold spec_BackDeliveries.f impl_BackDeliveries.f
    cases b with
    | false =>
      refine Ev.bind (a := ((⟨#[]⟩ : ByteArray), false)) (Ev.bind h1 (M.Ev_some fun k => rfl)) (Ev.bind (a := ((⟨#[]⟩ : ByteArray), false)) (Ev.bind h2 (M.Ev_some fun k => rfl)) (M.Ev_some fun k => by simp))
    | true =>
      have hg : GoodText s := h3.1 rfl
      have h60 := hg.2.1
      have h10 := hg.1
      have e1 : wrap64 ((s.size : Int) - 1) = (s.size : Int) - 1 := M.w64 (by omega) (by omega)
      refine Ev.bind (a := (strOfNums (bytesOf s).reverse, true)) (Ev.bind h1 ?_) (Ev.bind (a := (strOfNums (bytesOf s).reverse, true)) (Ev.bind h2 (M.Ev_some fun k => ?_)) (M.Ev_some fun k => by simp))
      · simp only [if_true, e1]
        refine back_loop s (by omega) s.size (Nat.le_refl _) _ ?_
        rw [List.drop_of_length_le (by rw [bytesOf_length]; exact Nat.le_refl _)]
        rfl
      · rw [if_pos rfl, if_pos ⟨by omega, by omega⟩]

end Go.Proofs.Ytfoefaniefmgoaa.Pure
