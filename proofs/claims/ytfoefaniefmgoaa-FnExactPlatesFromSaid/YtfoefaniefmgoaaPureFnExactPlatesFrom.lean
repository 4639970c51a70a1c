/- The program's PlatesFrom and the reference's answer the same for all lists, and the argument stays as it was: no further condition. -/
import Derived.Test.YtfoefaniefmgoaaM
import Derived.Test.YtfoefaniefmgoaaPFnExactPlatesFromx3
namespace Go.Proofs.Ytfoefaniefmgoaa.Pure
open Go.RowKit Go.Proofs.Ytfoefaniefmgoaa.PFnExactPlatesFrom Go.Proofs.YtfoefaniefmgoaaW.PrintWords Go.Proofs.YtfoefaniefmgoaaW.PrintLast Go.Proofs.YtfoefaniefmgoaaW.PrintMore
set_option linter.unusedVariables false
set_option linter.unusedSimpArgs false
theorem spec_l1In_eq (a b c : Int) : spec_l1In.f a b c = some (decide (b ≤ a ∧ a ≤ c)) := by
  unfold spec_l1In.f
  by_cases h : a ≥ b
  · rw [if_pos h]; simp [show b ≤ a from h]
  · rw [if_neg h]; simp [show ¬ b ≤ a from h]
theorem impl_within_eq (a b c : Int) : impl_within.f a b c = some (decide (b ≤ a ∧ a ≤ c)) := by
  unfold impl_within.f
  by_cases h : a ≥ b
  · rw [if_pos h]; simp [show b ≤ a from h]
  · rw [if_neg h]; simp [show ¬ b ≤ a from h]
theorem all_loops (l : List Int) (hl : l.length ≤ 1000000000000) (a b : Int) : ∀ (d i : Nat), i ≤ l.length → l.length - i = d →
    ∃ g : Bool, Ev (fun k => spec_l1All.l0 k a b l (l.length : Int) (i : Int)) g ∧ Ev (fun k => impl_allWithin.l0 k a b l (l.length : Int) (i : Int)) g ∧ (g = true ↔ ∀ j : Nat, i ≤ j → j < l.length → a ≤ rd l (j : Int) ∧ rd l (j : Int) ≤ b) := by
  intro d
  induction d with
  | zero =>
    intro i hi hd
    refine ⟨true, M.Ev_succ (M.Ev_some fun k => ?_), M.Ev_succ (M.Ev_some fun k => ?_), ?_⟩
    · simp only [spec_l1All.l0]; rw [if_neg (by omega)]
    · simp only [impl_allWithin.l0]; rw [if_neg (by omega)]
    · simp only [true_iff]; intro j h1 h2; omega
  | succ d ih =>
    intro i hi hd
    have e : wrap64 ((i : Int) + 1) = ((i + 1 : Nat) : Int) := by rw [M.w64 (by omega) (by omega)]; omega
    by_cases c : a ≤ rd l (i : Int) ∧ rd l (i : Int) ≤ b
    · obtain ⟨g, h1, h2, h3⟩ := ih (i + 1) (by omega) (by omega)
      refine ⟨g, M.Ev_succ ?_, M.Ev_succ ?_, ?_⟩
      · simp only [spec_l1All.l0, show (i : Int) < (l.length : Int) by omega, show (0 : Int) ≤ (i : Int) by omega, if_true, spec_l1In_eq, c, and_self, decide_true, Option.bind_some, e]
        exact h1
      · simp only [impl_allWithin.l0, show (i : Int) < (l.length : Int) by omega, show (0 : Int) ≤ (i : Int) by omega, if_true, impl_within_eq, c, and_self, decide_true, Option.bind_some, e]
        exact h2
      · rw [h3]
        constructor
        · intro h j x y
          by_cases q : j = i
          · rw [q]; exact c
          · exact h j (by omega) y
        · exact fun h j x y => h j (by omega) y
    · refine ⟨false, M.Ev_succ (M.Ev_some fun k => ?_), M.Ev_succ (M.Ev_some fun k => ?_), ?_⟩
      · simp only [spec_l1All.l0, show (i : Int) < (l.length : Int) by omega, show (0 : Int) ≤ (i : Int) by omega, if_true, spec_l1In_eq, c, decide_false, Option.bind_some, Bool.false_eq_true, if_false]
      · simp only [impl_allWithin.l0, show (i : Int) < (l.length : Int) by omega, show (0 : Int) ≤ (i : Int) by omega, if_true, impl_within_eq, c, decide_false, Option.bind_some, Bool.false_eq_true, if_false]
      · simp only [Bool.false_eq_true, false_iff]
        intro h
        exact c (h i (by omega) (by omega))
theorem all_both (l : List Int) (hl : l.length ≤ 1000000000000) (a b : Int) : ∃ g : Bool, Ev (fun k => spec_l1All.f k l a b) g ∧ Ev (fun k => impl_allWithin.f k l a b) g ∧ (g = true ↔ ∀ j : Nat, j < l.length → a ≤ rd l (j : Int) ∧ rd l (j : Int) ≤ b) := by
  obtain ⟨g, h1, h2, h3⟩ := all_loops l hl a b l.length 0 (by omega) (by omega)
  exact ⟨g, h1, h2, h3.trans ⟨fun h j x => h j (by omega) x, fun h j _ x => h j x⟩⟩
/-- The reference's count of the digits that a plate needs. -/
theorem need_spec (L : List Int) (last : Int) (r : Int × Bool) : ∀ (n : Nat), n ≤ 10000000 → ∀ (x N : List Int), x.length = 10 → N.length = 10 → (∀ d : Nat, d < 10 → 0 ≤ rd x (d : Int) ∧ rd x (d : Int) + n ≤ 100000000) → (∀ d : Nat, d < 10 → rd N (d : Int) = rd x (d : Int) + M.cd (d : Int) n) →
    Ev (fun k => spec_PlatesFrom.l2 k L last N N 10 0) r → Ev (fun k => spec_PlatesFrom.l1 k L last x (n : Int)) r := by
  intro n
  induction n using Nat.strongRecOn with
  | ind n ih =>
    intro hn x N hx hN hb hc hr
    refine M.Ev_succ ?_
    by_cases hz : n = 0
    · subst hz
      have e : x = N := M.rd_ext (by omega) (fun d hd => by have := hc d (by omega); rw [M.cd_zero] at this; omega)
      simp only [spec_PlatesFrom.l1, show ¬ (((0 : Nat) : Int) > 0) by omega, if_false, e, hN]
      exact hr
    · have e1 : wrap64 (Int.tdiv (n : Int) 10) = ((n / 10 : Nat) : Int) := by rw [M.tdiv_pos (by omega), M.w64 (by omega) (by omega)]; omega
      have e2 : Int.tmod (n : Int) 10 = ((n % 10 : Nat) : Int) := by rw [M.tmod_pos (by omega)]; omega
      have hd := hb (n % 10) (by omega)
      simp only [spec_PlatesFrom.l1, show ((n : Int) > 0) by omega, if_true, e1, e2, show (0 : Int) ≤ ((n % 10 : Nat) : Int) by omega, show ((n % 10 : Nat) : Int) < (x.length : Int) by omega, Int.toNat_natCast]
      rw [M.w64 (by omega) (by omega)]
      refine ih (n / 10) (by omega) (by omega) _ N (by rw [List.length_set]; exact hx) hN ?_ ?_ hr
      · intro d hd10
        have := hb d hd10
        rw [M.rd_set (by omega)]
        split
        · rename_i q; subst q; omega
        · omega
      · intro d hd10
        rw [M.rd_set (by omega), hc d hd10, M.cd_pos _ (by omega)]
        by_cases q : d = n % 10
        · rw [if_pos q, if_pos (by omega), q]; omega
        · rw [if_neg q, if_neg (by omega)]; omega
theorem check_no (L N : List Int) (hL : L.length = 10) (hN : N.length = 10) (last : Int) : ∀ (j i : Nat), i ≤ 10 → 10 - i = j → (∃ d : Nat, i ≤ d ∧ d < 10 ∧ rd L (d : Int) < rd N (d : Int)) →
    Ev (fun k => spec_PlatesFrom.l2 k L last N N 10 (i : Int)) (last, true) := by
  intro j
  induction j with
  | zero => intro i hi hd ⟨d, h1, h2, _⟩; omega
  | succ j ih =>
    intro i hi hd ⟨d, h1, h2, h3⟩
    have e : wrap64 ((i : Int) + 1) = ((i + 1 : Nat) : Int) := by rw [M.w64 (by omega) (by omega)]; omega
    refine M.Ev_succ ?_
    simp only [spec_PlatesFrom.l2, show (i : Int) < 10 by omega, show (0 : Int) ≤ (i : Int) by omega, if_true, show (i : Int) < (N.length : Int) by omega, show (i : Int) < (L.length : Int) by omega, e]
    by_cases c : rd N (i : Int) > rd L (i : Int)
    · simp only [c, if_true]; exact M.Ev_some fun k => rfl
    · simp only [c, if_false]
      refine ih (i + 1) (by omega) (by omega) ⟨d, ?_, h2, h3⟩
      by_cases q : d = i
      · subst q; omega
      · omega
theorem check_yes (L N : List Int) (hL : L.length = 10) (hN : N.length = 10) (last : Int) (r : Int × Bool) (hr : Ev (fun k => spec_PlatesFrom.l3 k L last N 10 0) r) (h : ∀ d : Nat, d < 10 → rd N (d : Int) ≤ rd L (d : Int)) : ∀ (j i : Nat), i ≤ 10 → 10 - i = j →
    Ev (fun k => spec_PlatesFrom.l2 k L last N N 10 (i : Int)) r := by
  intro j
  induction j with
  | zero =>
    intro i hi hd
    refine M.Ev_succ ?_
    simp only [spec_PlatesFrom.l2, show ¬ ((i : Int) < 10) by omega, if_false, hN]
    exact hr
  | succ j ih =>
    intro i hi hd
    have e : wrap64 ((i : Int) + 1) = ((i + 1 : Nat) : Int) := by rw [M.w64 (by omega) (by omega)]; omega
    have := h i (by omega)
    refine M.Ev_succ ?_
    simp only [spec_PlatesFrom.l2, show (i : Int) < 10 by omega, show (0 : Int) ≤ (i : Int) by omega, if_true, show (i : Int) < (N.length : Int) by omega, show (i : Int) < (L.length : Int) by omega, e, show ¬ (rd N (i : Int) > rd L (i : Int)) by omega, if_false]
    exact ih (i + 1) (by omega) (by omega)
theorem take_spec (N L' : List Int) (hN : N.length = 10) (hL' : L'.length = 10) (hNb : ∀ d : Nat, d < 10 → 0 ≤ rd N (d : Int)) (last : Int) (r : Int × Bool) (hl : 0 ≤ last) (hl2 : last ≤ 10000000) (hr : Ev (fun k => spec_PlatesFrom.l0 k L' (last + 1)) r) :
    ∀ (j i : Nat) (L : List Int), i ≤ 10 → 10 - i = j → L.length = 10 → (∀ d : Nat, d < 10 → 0 ≤ rd L (d : Int) ∧ rd L (d : Int) ≤ 100000000) → (∀ d : Nat, i ≤ d → d < 10 → rd N (d : Int) ≤ rd L (d : Int)) → (∀ d : Nat, d < 10 → rd L' (d : Int) = rd L (d : Int) - (if i ≤ d then rd N (d : Int) else 0)) → Ev (fun k => spec_PlatesFrom.l3 k L last N 10 (i : Int)) r := by
  intro j
  induction j with
  | zero =>
    intro i L hi hd hL hb hle hc
    have e : L = L' := M.rd_ext (by omega) (fun d hd10 => by have := hc d (by omega); rw [if_neg (by omega)] at this; omega)
    refine M.Ev_succ ?_
    simp only [spec_PlatesFrom.l3, show ¬ ((i : Int) < 10) by omega, if_false, e]
    rw [M.w64 (by omega) (by omega)]
    exact hr
  | succ j ih =>
    intro i L hi hd hL hb hle hc
    have e : wrap64 ((i : Int) + 1) = ((i + 1 : Nat) : Int) := by rw [M.w64 (by omega) (by omega)]; omega
    have b1 := hb i (by omega)
    have b2 := hNb i (by omega)
    have b3 := hle i (by omega) (by omega)
    refine M.Ev_succ ?_
    simp only [spec_PlatesFrom.l3, show (i : Int) < 10 by omega, show (0 : Int) ≤ (i : Int) by omega, if_true, show (i : Int) < (N.length : Int) by omega, show (i : Int) < (L.length : Int) by omega, e, Int.toNat_natCast]
    rw [M.w64 (by omega) (by omega)]
    refine ih (i + 1) _ (by omega) (by omega) (by rw [List.length_set]; exact hL) ?_ ?_ ?_
    · intro d hd10
      have := hb d hd10
      rw [M.rd_set (by omega)]
      split <;> omega
    · intro d hd1 hd10
      rw [M.rd_set (by omega), if_neg (by omega)]
      exact hle d (by omega) hd10
    · intro d hd10
      rw [M.rd_set (by omega), hc d hd10]
      by_cases q : d = i
      · subst q; rw [if_pos (by omega), if_pos rfl, if_neg (by omega)]; omega
      · rw [if_neg q]
        by_cases q2 : i ≤ d
        · rw [if_pos q2, if_pos (by omega)]
        · rw [if_neg q2, if_neg (by omega)]
/-- The program's round: enough digits. -/
theorem impl_yes (L' : List Int) (hL' : L'.length = 10) (last : Int) (r : Int × Bool) (hl : 0 ≤ last) (hl2 : last ≤ 10000000) (hr : Ev (fun k => impl_PlatesFrom.l0 k L' (last + 1)) r) : ∀ (n : Nat), n ≤ 10000000 → ∀ (L : List Int), L.length = 10 → (∀ d : Nat, d < 10 → rd L (d : Int) ≤ 100000000) →
    (∀ d : Nat, d < 10 → M.cd (d : Int) n ≤ rd L (d : Int)) → (∀ d : Nat, d < 10 → rd L' (d : Int) = rd L (d : Int) - M.cd (d : Int) n) → Ev (fun k => impl_PlatesFrom.l1 k L last (n : Int)) r := by
  intro n
  induction n using Nat.strongRecOn with
  | ind n ih =>
    intro hn L hL hb hle hc
    refine M.Ev_succ ?_
    by_cases hz : n = 0
    · subst hz
      have e : L = L' := M.rd_ext (by omega) (fun d hd => by have := hc d (by omega); rw [M.cd_zero] at this; omega)
      simp only [impl_PlatesFrom.l1, show ¬ (((0 : Nat) : Int) > 0) by omega, if_false, e]
      rw [M.w64 (by omega) (by omega)]
      exact hr
    · have e1 : wrap64 (Int.tdiv (n : Int) 10) = ((n / 10 : Nat) : Int) := by rw [M.tdiv_pos (by omega), M.w64 (by omega) (by omega)]; omega
      have e2 : Int.tmod (n : Int) 10 = ((n % 10 : Nat) : Int) := by rw [M.tmod_pos (by omega)]; omega
      have b1 := hb (n % 10) (by omega)
      have b2 := hle (n % 10) (by omega)
      rw [M.cd_pos _ (by omega), if_pos rfl] at b2
      have b3 := M.cd_nonneg ((n % 10 : Nat) : Int) (n / 10)
      simp only [impl_PlatesFrom.l1, show ((n : Int) > 0) by omega, if_true, e1, e2, show (0 : Int) ≤ ((n % 10 : Nat) : Int) by omega, show ((n % 10 : Nat) : Int) < (L.length : Int) by omega, Int.toNat_natCast, Option.bind_some]
      rw [M.w64 (x := rd L ((n % 10 : Nat) : Int) - 1) (by omega) (by omega), M.rd_set (by omega), if_pos rfl]
      simp only [show ¬ (rd L ((n % 10 : Nat) : Int) - 1 < 0) by omega, if_false]
      refine ih (n / 10) (by omega) (by omega) _ (by rw [List.length_set]; exact hL) ?_ ?_ ?_
      · intro d hd10
        have := hb d hd10
        rw [M.rd_set (by omega)]
        split <;> omega
      · intro d hd10
        have := hle d hd10
        rw [M.cd_pos _ (by omega)] at this
        rw [M.rd_set (by omega)]
        by_cases q : d = n % 10
        · subst q; rw [if_pos rfl] at this ⊢; omega
        · rw [if_neg (by omega)] at this; rw [if_neg q]; omega
      · intro d hd10
        rw [hc d hd10, M.rd_set (by omega), M.cd_pos _ (by omega)]
        by_cases q : d = n % 10
        · subst q; rw [if_pos rfl, if_pos rfl]; omega
        · rw [if_neg (by omega), if_neg q]; omega
/-- The program's round: too few digits. -/
theorem impl_no (last : Int) : ∀ (n : Nat), n ≤ 10000000 → ∀ (L : List Int), L.length = 10 → (∀ d : Nat, d < 10 → 0 ≤ rd L (d : Int) ∧ rd L (d : Int) ≤ 100000000) →
    (∃ d : Nat, d < 10 ∧ rd L (d : Int) < M.cd (d : Int) n) → Ev (fun k => impl_PlatesFrom.l1 k L last (n : Int)) (last, true) := by
  intro n
  induction n using Nat.strongRecOn with
  | ind n ih =>
    intro hn L hL hb ⟨d, hd, hlt⟩
    have hz : n ≠ 0 := by
      intro q
      subst q
      rw [M.cd_zero] at hlt
      have := hb d hd
      omega
    refine M.Ev_succ ?_
    have e1 : wrap64 (Int.tdiv (n : Int) 10) = ((n / 10 : Nat) : Int) := by rw [M.tdiv_pos (by omega), M.w64 (by omega) (by omega)]; omega
    have e2 : Int.tmod (n : Int) 10 = ((n % 10 : Nat) : Int) := by rw [M.tmod_pos (by omega)]; omega
    have b1 := hb (n % 10) (by omega)
    simp only [impl_PlatesFrom.l1, show ((n : Int) > 0) by omega, if_true, e1, e2, show (0 : Int) ≤ ((n % 10 : Nat) : Int) by omega, show ((n % 10 : Nat) : Int) < (L.length : Int) by omega, Int.toNat_natCast, Option.bind_some]
    rw [M.w64 (x := rd L ((n % 10 : Nat) : Int) - 1) (by omega) (by omega), M.rd_set (by omega), if_pos rfl]
    by_cases c : rd L ((n % 10 : Nat) : Int) - 1 < 0
    · simp only [c, if_true]; exact M.Ev_some fun k => rfl
    · simp only [c, if_false]
      refine ih (n / 10) (by omega) (by omega) _ (by rw [List.length_set]; exact hL) ?_ ⟨d, hd, ?_⟩
      · intro d' hd'
        have := hb d' hd'
        rw [M.rd_set (by omega)]
        split <;> omega
      · rw [M.cd_pos _ (by omega)] at hlt
        rw [M.rd_set (by omega)]
        by_cases q : d = n % 10
        · subst q; rw [if_pos rfl] at hlt ⊢; omega
        · rw [if_neg (by omega)] at hlt; rw [if_neg q]; omega
def ten (L : List Int) : Int := rd L 0 + rd L 1 + rd L 2 + rd L 3 + rd L 4 + rd L 5 + rd L 6 + rd L 7 + rd L 8 + rd L 9
def subL (L : List Int) (n : Nat) : List Int := (List.range 10).map fun (d : Nat) => rd L (d : Int) - M.cd (d : Int) n
theorem subL_length (L : List Int) (n : Nat) : (subL L n).length = 10 := by simp [subL]
theorem subL_get (L : List Int) (n d : Nat) (h : d < 10) : rd (subL L n) (d : Int) = rd L (d : Int) - M.cd (d : Int) n := by
  rw [M.rd_get (by rw [subL_length]; exact h)]; simp [subL]
def cdL (n : Nat) : List Int := (List.range 10).map fun (d : Nat) => M.cd (d : Int) n
theorem cdL_length (n : Nat) : (cdL n).length = 10 := by simp [cdL]
theorem cdL_get (n d : Nat) (h : d < 10) : rd (cdL n) (d : Int) = M.cd (d : Int) n := by
  rw [M.rd_get (by rw [cdL_length]; exact h)]; simp [cdL]
theorem ten_sub (L : List Int) (n : Nat) (hn : 0 < n) : ten (subL L n) + 1 ≤ ten L := by
  have g : ∀ d : Nat, d < 10 → rd (subL L n) (d : Int) + (if ((n % 10 : Nat) : Int) = (d : Int) then 1 else 0) ≤ rd L (d : Int) := by
    intro d hd
    rw [subL_get L n d hd, M.cd_pos _ hn]
    have := M.cd_nonneg (d : Int) (n / 10)
    omega
  have g0 := g 0 (by omega)
  have g1 := g 1 (by omega)
  have g2 := g 2 (by omega)
  have g3 := g 3 (by omega)
  have g4 := g 4 (by omega)
  have g5 := g 5 (by omega)
  have g6 := g 6 (by omega)
  have g7 := g 7 (by omega)
  have g8 := g 8 (by omega)
  have g9 := g 9 (by omega)
  have hm : n % 10 < 10 := by omega
  unfold ten
  generalize n % 10 = m at *
  have c0 : ((0 : Nat) : Int) = 0 := rfl
  have c1 : ((1 : Nat) : Int) = 1 := rfl
  have c2 : ((2 : Nat) : Int) = 2 := rfl
  have c3 : ((3 : Nat) : Int) = 3 := rfl
  have c4 : ((4 : Nat) : Int) = 4 := rfl
  have c5 : ((5 : Nat) : Int) = 5 := rfl
  have c6 : ((6 : Nat) : Int) = 6 := rfl
  have c7 : ((7 : Nat) : Int) = 7 := rfl
  have c8 : ((8 : Nat) : Int) = 8 := rfl
  have c9 : ((9 : Nat) : Int) = 9 := rfl
  rw [c0] at g0; rw [c1] at g1; rw [c2] at g2; rw [c3] at g3; rw [c4] at g4; rw [c5] at g5; rw [c6] at g6; rw [c7] at g7; rw [c8] at g8; rw [c9] at g9
  have hm10 : m = 0 ∨ m = 1 ∨ m = 2 ∨ m = 3 ∨ m = 4 ∨ m = 5 ∨ m = 6 ∨ m = 7 ∨ m = 8 ∨ m = 9 := by omega
  rcases hm10 with rfl | rfl | rfl | rfl | rfl | rfl | rfl | rfl | rfl | rfl <;> simp at g0 g1 g2 g3 g4 g5 g6 g7 g8 g9 <;> omega
/-- Both tell the greatest number up to which the digits are enough. -/
def Enough (L : List Int) (v : Nat) : Prop := (∀ d : Nat, d < 10 → M.totd (d : Int) v ≤ rd L (d : Int)) ∧ ∃ d : Nat, d < 10 ∧ rd L (d : Int) < M.totd (d : Int) (v + 1)
theorem rd_zeros (d : Nat) (h : d < 10) : rd (List.replicate 10 (0 : Int)) (d : Int) = 0 := by
  rw [M.rd_get (by rw [List.length_replicate]; exact h), List.getElem_replicate]
theorem stop_both (L0 L : List Int) (last : Nat) (hlast : last ≤ 2000000) (hL : L.length = 10) (hb : ∀ d : Nat, d < 10 → 0 ≤ rd L (d : Int) ∧ rd L (d : Int) ≤ 100000) (hrel : ∀ d : Nat, d < 10 → rd L (d : Int) = rd L0 (d : Int) - M.totd (d : Int) last)
    (key : ∃ d : Nat, d < 10 ∧ rd L (d : Int) < M.cd (d : Int) (last + 1)) : Enough L0 last ∧ Ev (fun k => spec_PlatesFrom.l0 k L (last : Int)) ((last : Int), true) ∧ Ev (fun k => impl_PlatesFrom.l0 k L (last : Int)) ((last : Int), true) := by
  have e : wrap64 ((last : Int) + 1) = ((last + 1 : Nat) : Int) := by rw [M.w64 (by omega) (by omega)]; omega
  refine ⟨⟨fun d hd => by have := hrel d hd; have := hb d hd; omega, ?_⟩, M.Ev_succ ?_, M.Ev_succ ?_⟩
  · obtain ⟨d, hd, h⟩ := key
    refine ⟨d, hd, ?_⟩
    have := hrel d hd
    simp only [M.totd]
    omega
  · have h10 : (10 : Nat) ≤ 35184372088832 := by omega
    simp only [spec_PlatesFrom.l0, e]
    simp only [show ((10 : Int) ≤ 35184372088832) = True by simp, show ((10 : Nat) ≤ 35184372088832) = True by simp, if_true]
    refine need_spec L last _ (last + 1) (by omega) (List.replicate 10 0) (cdL (last + 1)) (by simp) (cdL_length _) ?_ ?_ ?_
    · intro d hd
      rw [rd_zeros d hd]; omega
    · intro d hd
      rw [cdL_get _ _ hd, rd_zeros d hd]; omega
    · refine check_no L _ hL (cdL_length _) last 10 0 (by omega) (by omega) ?_
      obtain ⟨d, hd, h⟩ := key
      exact ⟨d, by omega, hd, by rw [cdL_get _ _ hd]; exact h⟩
  · simp only [impl_PlatesFrom.l0, e]
    exact impl_no last (last + 1) (by omega) L hL (fun d hd => by have := hb d hd; omega) key
theorem rounds_both (L0 : List Int) : ∀ (b : Nat) (L : List Int) (last : Nat), L.length = 10 → (∀ d : Nat, d < 10 → 0 ≤ rd L (d : Int) ∧ rd L (d : Int) ≤ 100000) → ten L ≤ b → last + b ≤ 2000000 → (∀ d : Nat, d < 10 → rd L (d : Int) = rd L0 (d : Int) - M.totd (d : Int) last) →
    ∃ v : Nat, v ≤ 2000000 ∧ Enough L0 v ∧ Ev (fun k => spec_PlatesFrom.l0 k L (last : Int)) ((v : Int), true) ∧ Ev (fun k => impl_PlatesFrom.l0 k L (last : Int)) ((v : Int), true) := by
  intro b
  induction b with
  | zero =>
    intro L last hL hb hs hlast hrel
    have ht := ten_sub L (last + 1) (by omega)
    refine ⟨last, by omega, stop_both L0 L last (by omega) hL hb hrel ?_⟩
    apply Classical.byContradiction
    intro hno
    have hge : ∀ d : Nat, d < 10 → 0 ≤ rd (subL L (last + 1)) (d : Int) := fun d hd => by
      rw [subL_get _ _ _ hd]
      have : ¬ rd L (d : Int) < M.cd (d : Int) (last + 1) := fun z => hno ⟨d, hd, z⟩
      omega
    have g0 : 0 ≤ rd (subL L (last + 1)) 0 := hge 0 (by omega)
    have g1 : 0 ≤ rd (subL L (last + 1)) 1 := hge 1 (by omega)
    have g2 : 0 ≤ rd (subL L (last + 1)) 2 := hge 2 (by omega)
    have g3 : 0 ≤ rd (subL L (last + 1)) 3 := hge 3 (by omega)
    have g4 : 0 ≤ rd (subL L (last + 1)) 4 := hge 4 (by omega)
    have g5 : 0 ≤ rd (subL L (last + 1)) 5 := hge 5 (by omega)
    have g6 : 0 ≤ rd (subL L (last + 1)) 6 := hge 6 (by omega)
    have g7 : 0 ≤ rd (subL L (last + 1)) 7 := hge 7 (by omega)
    have g8 : 0 ≤ rd (subL L (last + 1)) 8 := hge 8 (by omega)
    have g9 : 0 ≤ rd (subL L (last + 1)) 9 := hge 9 (by omega)
    unfold ten at ht hs
    omega
  | succ b ih =>
    intro L last hL hb hs hlast hrel
    by_cases key : ∃ d : Nat, d < 10 ∧ rd L (d : Int) < M.cd (d : Int) (last + 1)
    · exact ⟨last, by omega, stop_both L0 L last (by omega) hL hb hrel key⟩
    · have hle : ∀ d : Nat, d < 10 → M.cd (d : Int) (last + 1) ≤ rd L (d : Int) := fun d hd => by
        have : ¬ rd L (d : Int) < M.cd (d : Int) (last + 1) := fun z => key ⟨d, hd, z⟩
        omega
      have ht := ten_sub L (last + 1) (by omega)
      have hb' : ∀ d : Nat, d < 10 → 0 ≤ rd (subL L (last + 1)) (d : Int) ∧ rd (subL L (last + 1)) (d : Int) ≤ 100000 := fun d hd => by
        rw [subL_get _ _ _ hd]
        have := hle d hd
        have := hb d hd
        have := M.cd_nonneg (d : Int) (last + 1)
        omega
      obtain ⟨v, h1, h2, h3, h4⟩ := ih (subL L (last + 1)) (last + 1) (subL_length _ _) hb' (by omega) (by omega) (fun d hd => by
        rw [subL_get _ _ _ hd, hrel d hd]
        simp only [M.totd]
        omega)
      have e : wrap64 ((last : Int) + 1) = ((last + 1 : Nat) : Int) := by rw [M.w64 (by omega) (by omega)]; omega
      refine ⟨v, h1, h2, M.Ev_succ ?_, M.Ev_succ ?_⟩
      · simp only [spec_PlatesFrom.l0, e]
        simp only [show ((10 : Int) ≤ 35184372088832) = True by simp, show ((10 : Nat) ≤ 35184372088832) = True by simp, if_true]
        refine need_spec L last _ (last + 1) (by omega) (List.replicate 10 0) (cdL (last + 1)) (by simp) (cdL_length _) ?_ ?_ ?_
        · intro d hd
          rw [rd_zeros d hd]; omega
        · intro d hd
          rw [cdL_get _ _ hd, rd_zeros d hd]; omega
        · refine check_yes L _ hL (cdL_length _) last _ ?_ (fun d hd => by rw [cdL_get _ _ hd]; exact hle d hd) 10 0 (by omega) (by omega)
          refine take_spec (cdL (last + 1)) (subL L (last + 1)) (cdL_length _) (subL_length _ _) (fun d hd => by rw [cdL_get _ _ hd]; exact M.cd_nonneg _ _) last _ (by omega) (by omega) ?_ 10 0 L (by omega) (by omega) hL (fun d hd => by have := hb d hd; omega) (fun d _ hd => by rw [cdL_get _ _ hd]; exact hle d hd) (fun d hd => by rw [subL_get _ _ _ hd, if_pos (by omega), cdL_get _ _ hd])
          exact h3
      · simp only [impl_PlatesFrom.l0, e]
        exact impl_yes (subL L (last + 1)) (subL_length _ _) last _ (by omega) (by omega) h4 (last + 1) (by omega) L hL (fun d hd => by have := hb d hd; omega) hle (fun d hd => subL_get _ _ _ hd)
theorem PlatesFrom_both (L : List Int) (hl : L.length ≤ 1000000000000) : ∃ r : Int × Bool, Ev (fun k => spec_PlatesFrom.f k L) r ∧ Ev (fun k => impl_PlatesFrom.f k L) r ∧
    ((r = (0, false) ∧ ¬ (L.length = 10 ∧ ∀ d : Nat, d < 10 → 0 ≤ rd L (d : Int) ∧ rd L (d : Int) ≤ 100000)) ∨ ∃ v : Nat, r = ((v : Int), true) ∧ L.length = 10 ∧ (∀ d : Nat, d < 10 → 0 ≤ rd L (d : Int) ∧ rd L (d : Int) ≤ 100000) ∧ v ≤ 2000000 ∧ Enough L v) := by
  unfold spec_PlatesFrom.f impl_PlatesFrom.f
  by_cases c : L.length = 10
  · simp only [show (L.length : Int) = 10 by omega, if_true]
    obtain ⟨g, h1, h2, h3⟩ := all_both L hl 0 100000
    cases g with
    | false =>
      refine ⟨(0, false), Ev.bind h1 (M.Ev_succ (M.Ev_some fun k => by simp [spec_PlatesFrom.j0])), Ev.bind h2 (M.Ev_succ (M.Ev_some fun k => by simp [impl_PlatesFrom.j0])), .inl ⟨rfl, fun z => ?_⟩⟩
      have := h3.2 (fun j hj => z.2 j (by omega))
      simp at this
    | true =>
      have hb : ∀ d : Nat, d < 10 → 0 ≤ rd L (d : Int) ∧ rd L (d : Int) ≤ 100000 := fun d hd => h3.1 rfl d (by omega)
      have g0 : rd L 0 ≤ 100000 := (hb 0 (by omega)).2
      have g1 : rd L 1 ≤ 100000 := (hb 1 (by omega)).2
      have g2 : rd L 2 ≤ 100000 := (hb 2 (by omega)).2
      have g3 : rd L 3 ≤ 100000 := (hb 3 (by omega)).2
      have g4 : rd L 4 ≤ 100000 := (hb 4 (by omega)).2
      have g5 : rd L 5 ≤ 100000 := (hb 5 (by omega)).2
      have g6 : rd L 6 ≤ 100000 := (hb 6 (by omega)).2
      have g7 : rd L 7 ≤ 100000 := (hb 7 (by omega)).2
      have g8 : rd L 8 ≤ 100000 := (hb 8 (by omega)).2
      have g9 : rd L 9 ≤ 100000 := (hb 9 (by omega)).2
      obtain ⟨v, h4, h5, h6, h7⟩ := rounds_both L 1000000 L 0 c hb (by unfold ten; omega) (by omega) (fun d _ => by simp [M.totd])
      refine ⟨((v : Int), true), Ev.bind h1 (M.Ev_succ ?_), Ev.bind h2 (M.Ev_succ ?_), .inr ⟨v, rfl, c, hb, h4, h5⟩⟩
      · simp only [spec_PlatesFrom.j0, Bool.not_true, Bool.false_eq_true, if_false, spec_l1Own.f, Option.bind_some, List.length_nil, Nat.zero_add, List.nil_append, show L.length < 17592186044416 by omega, if_true]
        exact h6
      · simp only [impl_PlatesFrom.j0, Bool.not_true, Bool.false_eq_true, if_false, slices_Clone_int_int.f, Option.bind_some, List.length_nil, Nat.zero_add, List.nil_append, show L.length < 17592186044416 by omega, if_true]
        exact h7
  · simp only [show ¬ ((L.length : Int) = 10) by omega, if_false]
    exact ⟨(0, false), M.Ev_succ (M.Ev_some fun k => by simp [spec_PlatesFrom.j0]), M.Ev_succ (M.Ev_some fun k => by simp [impl_PlatesFrom.j0]), .inl ⟨rfl, fun z => c z.1⟩⟩
theorem toIntS_loop (l : List Int) (hl : l.length ≤ 1000000000000) : ∀ (d i : Nat) (acc : List Int), i ≤ l.length → l.length - i = d → acc.length = l.length → acc.take i = l.take i → Ev (fun k => laws_toIntS.l0 k l acc (i : Int)) l := by
  intro d
  induction d with
  | zero =>
    intro i acc hi hd ha ht
    obtain rfl : i = l.length := by omega
    refine M.Ev_succ (M.Ev_some fun k => ?_)
    simp only [laws_toIntS.l0]
    rw [if_neg (by omega), M.take_all ha rfl ht]
  | succ d ih =>
    intro i acc hi hd ha ht
    have hil : i < l.length := by omega
    have e : wrap64 ((i : Int) + 1) = ((i + 1 : Nat) : Int) := by rw [M.w64 (by omega) (by omega)]; omega
    refine M.Ev_succ ?_
    simp only [laws_toIntS.l0, show (i : Int) < (l.length : Int) by omega, show (0 : Int) ≤ (i : Int) by omega, if_true, show (i : Int) < (acc.length : Int) by omega, e, Int.toNat_natCast]
    refine ih (i + 1) _ (by omega) (by omega) (by rw [List.length_set]; exact ha) ?_
    exact M.take_set_succ (by omega) hil ht (M.rd_get hil)
theorem toIntS_ev (l : List Int) (hl : l.length ≤ 1000000000000) : Ev (fun k => laws_toIntS.f k l) l := by
  unfold laws_toIntS.f
  simp only [show (0 : Int) ≤ (l.length : Int) by omega, if_true, Int.toNat_natCast, show l.length ≤ 35184372088832 by omega]
  exact toIntS_loop l hl l.length 0 _ (by omega) (by omega) (by simp) (by simp)
theorem eqIntS_loop (l : List Int) (hl : l.length ≤ 1000000000000) : ∀ (d i : Nat), i ≤ l.length → l.length - i = d → Ev (fun k => laws_eqIntS.l0 k l l (i : Int)) true := by
  intro d
  induction d with
  | zero =>
    intro i hi hd
    refine M.Ev_succ (M.Ev_some fun k => ?_)
    simp only [laws_eqIntS.l0]
    rw [if_neg (by omega)]
  | succ d ih =>
    intro i hi hd
    have e : wrap64 ((i : Int) + 1) = ((i + 1 : Nat) : Int) := by rw [M.w64 (by omega) (by omega)]; omega
    refine M.Ev_succ ?_
    simp only [laws_eqIntS.l0, show (i : Int) < (l.length : Int) by omega, show (0 : Int) ≤ (i : Int) by omega, if_true, e]
    exact ih (i + 1) (by omega) (by omega)
theorem eqIntS_ev (l : List Int) (hl : l.length ≤ 1000000000000) : Ev (fun k => laws_eqIntS.f k l l) true := by
  unfold laws_eqIntS.f
  simp only [if_true]
  exact eqIntS_loop l hl l.length 0 (by omega) (by omega)
theorem FnExactPlatesFrom : laws_FnExactPlatesFrom.Pure := by
  intro l _ hl _
  refine Ev.rounds (r := true) ?_
  unfold laws_FnExactPlatesFrom.f
  by_cases c : (l.length : Int) > 1048576
  · simp only [c, if_true]; exact M.Ev_some fun k => rfl
  · simp only [c, if_false]
    obtain ⟨r, h1, h2, _⟩ := PlatesFrom_both l (by omega)
    have ht := toIntS_ev l (by omega)
    refine Ev.bind ht (Ev.bind h1 (Ev.bind ht (Ev.bind h2 ?_)))
    simp only [if_true, bne_self_eq_false]
    refine M.Ev_succ ?_
    simp only [laws_FnExactPlatesFrom.j0, Bool.false_eq_true, if_false]
    exact Ev.bind ht (Ev.bind (eqIntS_ev l (by omega)) (M.Ev_some fun k => by simp))

end Go.Proofs.Ytfoefaniefmgoaa.Pure
