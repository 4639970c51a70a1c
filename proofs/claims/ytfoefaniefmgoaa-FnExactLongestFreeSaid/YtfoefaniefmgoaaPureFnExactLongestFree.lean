/- The program's LongestFree and the reference's answer the same for all texts: no further condition. -/
import Derived.Test.YtfoefaniefmgoaaM
import Derived.Test.YtfoefaniefmgoaaPFnExactLongestFreex1
namespace Go.Proofs.Ytfoefaniefmgoaa.Pure
open Go.RowKit Go.Proofs.Ytfoefaniefmgoaa.PFnExactLongestFree Go.Proofs.YtfoefaniefmgoaaW.PrintWords Go.Proofs.YtfoefaniefmgoaaW.PrintLast Go.Proofs.YtfoefaniefmgoaaW.PrintMore
set_option linter.unusedVariables false
set_option linter.unusedSimpArgs false
theorem spec_l1In_eq (a b c : Int) : spec_l1In.f a b c = some (decide (b ≤ a ∧ a ≤ c)) := by
  unfold spec_l1In.f
  by_cases h : a ≥ b
  · rw [if_pos h]; simp [show b ≤ a from h]
  · rw [if_neg h]; simp [show ¬ b ≤ a from h]
theorem impl_within_eq (a b c : Int) : impl_within.f a b c = some (decide (b ≤ a ∧ a ≤ c)) := by
  unfold impl_within.f
  by_cases h : a ≥ b
  · rw [if_pos h]; simp [show b ≤ a from h]
  · rw [if_neg h]; simp [show ¬ b ≤ a from h]
theorem idx_all : ∀ n : Fin 256, (Lib.indexByte [108, 114, 98, 45] n.val.toUInt8 < 0) = decide (¬ (n.val = 108 ∨ n.val = 114 ∨ n.val = 98 ∨ n.val = 45)) := by decide +kernel
theorem idx (c : Int) (h0 : 0 ≤ c) (h : c ≤ 255) : ∃ v, strings_IndexByte.f (⟨#[108, 114, 98, 45]⟩ : ByteArray) c = some v ∧ (v < 0 ↔ ¬ (c = 108 ∨ c = 114 ∨ c = 98 ∨ c = 45)) := by
  obtain ⟨n, rfl⟩ := Int.eq_ofNat_of_zero_le h0
  refine ⟨_, rfl, ?_⟩
  have := idx_all ⟨n, by omega⟩
  have e : ((⟨#[108, 114, 98, 45]⟩ : ByteArray).data.toList) = [108, 114, 98, 45] := rfl
  rw [e, Int.toNat_natCast]
  simp only at this
  rw [this]
  simp only [decide_eq_true_eq]
  omega
/-- A sign of deliveries. -/
def isD (c : Int) : Prop := c = 108 ∨ c = 114 ∨ c = 98 ∨ c = 45
instance (c : Int) : Decidable (isD c) := by unfold isD; infer_instance
theorem good_loops (s : ByteArray) (hs : s.size ≤ 9000000000000000000) : ∀ (d i : Nat), i ≤ s.size → s.size - i = d →
    ∃ b : Bool, Ev (fun k => spec_poGood.l0 k s (i : Int)) b ∧ Ev (fun k => impl_AreDeliveries.l0 k s (s.size : Int) (i : Int)) (b && decide (1 ≤ s.size ∧ s.size ≤ 60)) ∧ (b = true ↔ ∀ j : Nat, i ≤ j → j < s.size → isD (bt s j)) := by
  intro d
  induction d with
  | zero =>
    intro i hi hd
    refine ⟨true, M.Ev_succ (M.Ev_some fun k => ?_), M.Ev_succ (M.Ev_some fun k => ?_), ?_⟩
    · simp only [spec_poGood.l0]; rw [if_neg (by omega)]
    · simp only [impl_AreDeliveries.l0]
      rw [if_neg (by omega), impl_within_eq]
      simp only [Option.bind_some, Bool.true_and, Option.some.injEq, decide_eq_decide]
      omega
    · simp; intro j h1 h2; omega
  | succ d ih =>
    intro i hi hd
    obtain ⟨b, h1, h2, h3⟩ := ih (i + 1) (by omega) (by omega)
    have hb := bt_range s i
    have e : wrap64 ((i : Int) + 1) = ((i + 1 : Nat) : Int) := by rw [M.w64 (by omega) (by omega)]; omega
    obtain ⟨v, hv, hv2⟩ := idx (bt s i) hb.1 hb.2
    by_cases hc : isD (bt s i)
    · refine ⟨b, ?_, ?_, ?_⟩
      · refine M.Ev_succ ?_
        simp only [spec_poGood.l0, show (i : Int) < (s.size : Int) by omega, show (0 : Int) ≤ (i : Int) by omega, if_true, e]
        by_cases a1 : bt s i = 108
        · simp only [a1, if_true]; exact h1
        · by_cases a2 : bt s i = 114
          · simp only [a1, a2, if_true, if_false]; exact h1
          · by_cases a3 : bt s i = 98
            · simp only [a1, a2, a3, if_true, if_false]; exact h1
            · by_cases a4 : bt s i = 45
              · simp only [a1, a2, a3, a4, if_true, if_false]; exact h1
              · unfold isD at hc; omega
      · refine M.Ev_succ ?_
        have hn : ¬ v < 0 := fun z => (hv2.1 z) hc
        simp only [impl_AreDeliveries.l0, show (i : Int) < (s.size : Int) by omega, show (0 : Int) ≤ (i : Int) by omega, if_true, hv, Option.bind_some, hn, if_false, e]
        exact h2
      · rw [h3]
        constructor
        · intro h j a b
          by_cases q : j = i
          · rw [q]; exact hc
          · exact h j (by omega) b
        · exact fun h j a b => h j (by omega) b
    · refine ⟨false, ?_, ?_, ?_⟩
      · refine M.Ev_succ (M.Ev_some fun k => ?_)
        unfold isD at hc
        simp only [spec_poGood.l0]
        rw [if_pos (by omega), if_pos (by omega), if_neg (by omega), if_neg (by omega), if_neg (by omega), if_neg (by omega)]
      · refine M.Ev_succ (M.Ev_some fun k => ?_)
        have hn : v < 0 := hv2.2 hc
        simp only [impl_AreDeliveries.l0]
        rw [if_pos (by omega), if_pos (by omega), if_pos (by omega), hv]
        simp only [Option.bind_some]
        rw [if_pos hn]; simp
      · simp only [Bool.false_eq_true, false_iff]
        intro h
        exact hc (h i (by omega) (by omega))
/-- The text is one of deliveries: both say so, or neither does. -/
def GoodText (s : ByteArray) : Prop := 1 ≤ s.size ∧ s.size ≤ 60 ∧ ∀ j : Nat, j < s.size → isD (bt s j)
theorem good_both (s : ByteArray) (hs : s.size ≤ 9000000000000000000) : ∃ b : Bool, Ev (fun k => spec_poGood.f k s) b ∧ Ev (fun k => impl_AreDeliveries.f k s) b ∧ (b = true ↔ GoodText s) := by
  obtain ⟨b, h1, h2, h3⟩ := good_loops s hs s.size 0 (by omega) (by omega)
  refine ⟨b && decide (1 ≤ s.size ∧ s.size ≤ 60), ?_, ?_, ?_⟩
  · unfold spec_poGood.f
    rw [spec_l1In_eq]
    simp only [Option.bind_some]
    by_cases c : 1 ≤ s.size ∧ s.size ≤ 60
    · have c' : (1 : Int) ≤ (s.size : Int) ∧ (s.size : Int) ≤ 60 := by omega
      simp only [c, c', and_self, decide_true, if_true, Bool.and_true]
      exact h1
    · have c' : ¬ ((1 : Int) ≤ (s.size : Int) ∧ (s.size : Int) ≤ 60) := by omega
      simp only [c, c', decide_false, Bool.and_false]
      exact M.Ev_some fun k => by simp
  · unfold impl_AreDeliveries.f; exact h2
  · unfold GoodText
    simp only [Bool.and_eq_true, decide_eq_true_eq, h3]
    constructor
    · rintro ⟨a, b, c⟩; exact ⟨b, c, fun j hj => a j (by omega) hj⟩
    · rintro ⟨a, b, c⟩; exact ⟨fun j _ hj => c j hj, a, b⟩
theorem free_loops (s : ByteArray) (hs : s.size ≤ 60) : ∀ (d i : Nat) (b L now : Int), i ≤ s.size → s.size - i = d → 0 ≤ b → b ≤ 60 → 0 ≤ L → L ≤ 60 → 0 ≤ now → now ≤ i →
    ∃ r, Ev (fun k => spec_LongestFree.l0 k s b L now (i : Int)) r ∧ Ev (fun k => impl_LongestFree.l0 k s b L ((i : Int) - now) (s.size : Int) (i : Int)) r := by
  intro d
  induction d with
  | zero =>
    intro i b L now hi hd b0 b1 l0 l1 n0 n1
    refine ⟨(b, L, decide (L > 0)), M.Ev_succ (M.Ev_some fun k => ?_), M.Ev_succ (M.Ev_some fun k => ?_)⟩
    · simp only [spec_LongestFree.l0]; rw [if_neg (by omega)]
    · simp only [impl_LongestFree.l0]; rw [if_neg (by omega)]
  | succ d ih =>
    intro i b L now hi hd b0 b1 l0 l1 n0 n1
    have e : wrap64 ((i : Int) + 1) = ((i + 1 : Nat) : Int) := by rw [M.w64 (by omega) (by omega)]; omega
    have e2 : wrap64 (now + 1) = now + 1 := M.w64 (by omega) (by omega)
    have e3 : wrap64 (((i + 1 : Nat) : Int) - ((i : Int) - now)) = now + 1 := by rw [M.w64 (by omega) (by omega)]; omega
    by_cases c : bt s i = 45
    · by_cases c2 : now + 1 > L
      · obtain ⟨r, h1, h2⟩ := ih (i + 1) ((i : Int) - now) (now + 1) (now + 1) (by omega) (by omega) (by omega) (by omega) (by omega) (by omega) (by omega) (by omega)
        have e4 : wrap64 (wrap64 ((i : Int) - (now + 1)) + 1) = (i : Int) - now := by rw [M.w64 (x := (i : Int) - (now + 1)) (by omega) (by omega), M.w64 (by omega) (by omega)]; omega
        refine ⟨r, M.Ev_succ ?_, M.Ev_succ ?_⟩
        · simp only [spec_LongestFree.l0, show (i : Int) < (s.size : Int) by omega, show (0 : Int) ≤ (i : Int) by omega, if_true, c, e2, c2, e, e4]
          exact h1
        · simp only [impl_LongestFree.l0, show (i : Int) < (s.size : Int) by omega, show (0 : Int) ≤ (i : Int) by omega, if_true, c, e, e3, c2]
          rw [show ((i + 1 : Nat) : Int) - (now + 1) = (i : Int) - now by omega] at h2
          exact h2
      · obtain ⟨r, h1, h2⟩ := ih (i + 1) b L (now + 1) (by omega) (by omega) (by omega) (by omega) (by omega) (by omega) (by omega) (by omega)
        refine ⟨r, M.Ev_succ ?_, M.Ev_succ ?_⟩
        · simp only [spec_LongestFree.l0, show (i : Int) < (s.size : Int) by omega, show (0 : Int) ≤ (i : Int) by omega, if_true, c, e2, c2, if_false, e]
          exact h1
        · simp only [impl_LongestFree.l0, show (i : Int) < (s.size : Int) by omega, show (0 : Int) ≤ (i : Int) by omega, if_true, c, e, e3, c2, if_false]
          rw [show ((i + 1 : Nat) : Int) - (now + 1) = (i : Int) - now by omega] at h2
          exact h2
    · obtain ⟨r, h1, h2⟩ := ih (i + 1) b L 0 (by omega) (by omega) (by omega) (by omega) (by omega) (by omega) (by omega) (by omega)
      refine ⟨r, M.Ev_succ ?_, M.Ev_succ ?_⟩
      · simp only [spec_LongestFree.l0, show (i : Int) < (s.size : Int) by omega, show (0 : Int) ≤ (i : Int) by omega, if_true, c, if_false, e]
        exact h1
      · simp only [impl_LongestFree.l0, show (i : Int) < (s.size : Int) by omega, show (0 : Int) ≤ (i : Int) by omega, if_true, c, if_false, e]
        rw [Int.sub_zero] at h2
        exact h2
theorem free_both (s : ByteArray) (hs : s.size ≤ 1000000000) : ∃ r, Ev (fun k => spec_LongestFree.f k s) r ∧ Ev (fun k => impl_LongestFree.f k s) r := by
  obtain ⟨b, g1, g2, g3⟩ := good_both s (by omega)
  unfold spec_LongestFree.f impl_LongestFree.f
  cases b with
  | false => exact ⟨(0, 0, false), Ev.bind g1 (M.Ev_some fun k => rfl), Ev.bind g2 (M.Ev_some fun k => rfl)⟩
  | true =>
    have hg := g3.1 rfl
    obtain ⟨r, h1, h2⟩ := free_loops s hg.2.1 s.size 0 0 0 0 (by omega) (by omega) (by omega) (by omega) (by omega) (by omega) (by omega) (by omega)
    refine ⟨r, Ev.bind g1 ?_, Ev.bind g2 ?_⟩
    · simp only [if_true]; exact h1
    · simp only [if_true]; exact h2
theorem FnExactLongestFree : laws_FnExactLongestFree.Pure := by
  intro s hs
  refine Ev.rounds (r := true) ?_
  unfold laws_FnExactLongestFree.f
  by_cases c : (s.size : Int) > 1048576
  · simp only [c, if_true]; exact M.Ev_some fun k => rfl
  · simp only [c, if_false]
    obtain ⟨r, h1, h2⟩ := free_both s (by omega)
    exact Ev.bind h1 (Ev.bind h2 (M.Ev_some fun k => by simp))

end Go.Proofs.Ytfoefaniefmgoaa.Pure
