/- The program's PartPlates and the reference's answer the same for all lists and pairs of numbers, the argument stays as it was, and the results share no memory: no further condition. -/
import Derived.Test.YtgjgbdpfjohaaaaM
import Derived.Test.YtgjgbdpfjohaaaaPFnExactPartPlatesx10
namespace Go.Proofs.Ytgjgbdpfjohaaaa.Pure
open Go.RowKit Go.Proofs.Ytgjgbdpfjohaaaa.PFnExactPartPlates Go.Proofs.YtgjgbdpfjohaaaaW.PrintWords Go.Proofs.YtgjgbdpfjohaaaaW.PrintLast Go.Proofs.YtgjgbdpfjohaaaaW.PrintMore
set_option linter.unusedVariables false
set_option linter.unusedSimpArgs false
theorem spec_l1In_eq (a b c : Int) : spec_l1In.f a b c = some (decide (b ≤ a ∧ a ≤ c)) := by
  unfold spec_l1In.f
  by_cases h : a ≥ b
  · rw [if_pos h]; simp [show b ≤ a from h]
  · rw [if_neg h]; simp [show ¬ b ≤ a from h]
theorem impl_within_eq (a b c : Int) : impl_within.f a b c = some (decide (b ≤ a ∧ a ≤ c)) := by
  unfold impl_within.f
  by_cases h : a ≥ b
  · rw [if_pos h]; simp [show b ≤ a from h]
  · rw [if_neg h]; simp [show ¬ b ≤ a from h]
theorem spec_isPlate_eq (n l : Int) : spec_isPlate.f n l = some (M.plateB n l) := by
  unfold spec_isPlate.f M.plateB
  simp only [spec_l1In_eq, Option.bind_some]
  by_cases h : 1 ≤ n ∧ n ≤ 9999 <;> simp [h]
theorem impl_IsPlate_eq (n l : Int) : impl_IsPlate.f n l = some (M.plateB n l) := by
  unfold impl_IsPlate.f M.plateB
  simp only [impl_within_eq, Option.bind_some]
  by_cases h : 1 ≤ n ∧ n ≤ 9999 <;> simp [h]
theorem spec_isRank_eq {n l : Int} (h : M.plateB n l = true) : spec_isRank.f n l = some (M.rank n l) := by
  have h' := M.plateB_iff.1 h
  unfold spec_isRank.f M.rank
  rw [M.w64 (x := 27 * n) (by omega) (by omega), M.w64 (by omega) (by omega), Int.mul_comm]
theorem impl_rankOf_eq {n l : Int} (h : M.plateB n l = true) : impl_rankOf.f n l = some (M.rank n l) := by
  have h' := M.plateB_iff.1 h
  unfold impl_rankOf.f M.rank
  rw [M.w64 (x := n * 27) (by omega) (by omega), M.w64 (by omega) (by omega)]
def pn (l : List S43) (i : Nat) : Int := (rd_T43 l (i : Int)).f0
def pl (l : List S43) (i : Nat) : Int := (rd_T43 l (i : Int)).f1
def prk (l : List S43) (i : Nat) : Int := M.rank (pn l i) (pl l i)
/-- Plates: 1 to 60 of them, each a plate, one behind the other. -/
def Good (l : List S43) : Prop := 1 ≤ l.length ∧ l.length ≤ 60 ∧ (∀ i, i < l.length → M.plateB (pn l i) (pl l i) = true) ∧ ∀ i, i + 1 < l.length → prk l i < prk l (i + 1)
noncomputable instance goodDec (l : List S43) : Decidable (Good l) := Classical.propDecidable _
theorem good_loops (l : List S43) (hl : l.length ≤ 9000000000000000000) : ∀ (d i : Nat), i ≤ l.length → l.length - i = d → (0 < i → M.plateB (pn l (i - 1)) (pl l (i - 1)) = true) →
    ∃ b : Bool, Ev (fun k => spec_isGood.l0 k l l (l.length : Int) (i : Int)) b ∧ Ev (fun k => impl_ArePlates.l0 k l l (l.length : Int) (i : Int)) (b && decide (1 ≤ l.length ∧ l.length ≤ 60)) ∧
      (b = true ↔ (∀ j, i ≤ j → j < l.length → M.plateB (pn l j) (pl l j) = true) ∧ ∀ j, i ≤ j + 1 → j + 1 < l.length → prk l j < prk l (j + 1)) := by
  intro d
  induction d with
  | zero =>
    intro i hi hd hp
    refine ⟨true, M.Ev_succ (M.Ev_some fun k => ?_), M.Ev_succ (M.Ev_some fun k => ?_), ?_⟩
    · simp only [spec_isGood.l0]; rw [if_neg (by omega)]
    · simp only [impl_ArePlates.l0]
      rw [if_neg (by omega), impl_within_eq]
      simp only [Option.bind_some, Bool.true_and, Option.some.injEq, decide_eq_decide]
      omega
    · simp only [true_iff]
      exact ⟨fun j a b => by omega, fun j a b => by omega⟩
  | succ d ih =>
    intro i hi hd hp
    have e : wrap64 ((i : Int) + 1) = ((i + 1 : Nat) : Int) := by rw [M.w64 (by omega) (by omega)]; omega
    have sp : spec_isPlate.f ((rd_T43 l (i : Int)).f0) ((rd_T43 l (i : Int)).f1) = some (M.plateB (pn l i) (pl l i)) := spec_isPlate_eq _ _
    have ip : impl_IsPlate.f ((rd_T43 l (i : Int)).f0) ((rd_T43 l (i : Int)).f1) = some (M.plateB (pn l i) (pl l i)) := impl_IsPlate_eq _ _
    by_cases hc : M.plateB (pn l i) (pl l i) = true
    · have sr : spec_isRank.f ((rd_T43 l (i : Int)).f0) ((rd_T43 l (i : Int)).f1) = some (prk l i) := spec_isRank_eq hc
      have ir : impl_rankOf.f ((rd_T43 l (i : Int)).f0) ((rd_T43 l (i : Int)).f1) = some (prk l i) := impl_rankOf_eq hc
      obtain ⟨b, h1, h2, h3⟩ := ih (i + 1) (by omega) (by omega) (fun _ => by simpa using hc)
      by_cases h0 : i = 0
      · subst h0
        refine ⟨b, M.Ev_succ ?_, M.Ev_succ ?_, ?_⟩
        · simp only [spec_isGood.l0, show ((0 : Nat) : Int) < (l.length : Int) by omega, show (0 : Int) ≤ ((0 : Nat) : Int) by omega, if_true, sp, hc, Option.bind_some, show ¬ (((0 : Nat) : Int) > 0) by omega, if_false, e]
          exact h1
        · simp only [impl_ArePlates.l0, show ((0 : Nat) : Int) < (l.length : Int) by omega, show (0 : Int) ≤ ((0 : Nat) : Int) by omega, if_true, ip, hc, Option.bind_some, show ¬ (((0 : Nat) : Int) > 0) by omega, if_false, e]
          exact h2
        · rw [h3]
          constructor
          · rintro ⟨x, y⟩
            refine ⟨fun j a b => ?_, fun j a b => y j (by omega) b⟩
            by_cases q : j = 0
            · rw [q]; exact hc
            · exact x j (by omega) b
          · rintro ⟨x, y⟩
            exact ⟨fun j a b => x j (by omega) b, fun j a b => y j (by omega) b⟩
      · have hq := hp (by omega)
        have em : wrap64 ((i : Int) - 1) = ((i - 1 : Nat) : Int) := by rw [M.w64 (by omega) (by omega)]; omega
        have sm : spec_isRank.f ((rd_T43 l ((i - 1 : Nat) : Int)).f0) ((rd_T43 l ((i - 1 : Nat) : Int)).f1) = some (prk l (i - 1)) := spec_isRank_eq hq
        have im : impl_rankOf.f ((rd_T43 l ((i - 1 : Nat) : Int)).f0) ((rd_T43 l ((i - 1 : Nat) : Int)).f1) = some (prk l (i - 1)) := impl_rankOf_eq hq
        have ei : i - 1 + 1 = i := by omega
        by_cases hr : prk l (i - 1) < prk l i
        · refine ⟨b, M.Ev_succ ?_, M.Ev_succ ?_, ?_⟩
          · simp only [spec_isGood.l0, show (i : Int) < (l.length : Int) by omega, show (0 : Int) ≤ (i : Int) by omega, if_true, sp, hc, Option.bind_some, show ((i : Int) > 0) by omega, e, em, show (0 : Int) ≤ ((i - 1 : Nat) : Int) by omega, show ((i - 1 : Nat) : Int) < (l.length : Int) by omega, sm, sr, show ¬ (prk l (i - 1) ≥ prk l i) by omega, if_false]
            exact h1
          · simp only [impl_ArePlates.l0, show (i : Int) < (l.length : Int) by omega, show (0 : Int) ≤ (i : Int) by omega, if_true, ip, hc, Option.bind_some, show ((i : Int) > 0) by omega, e, em, show (0 : Int) ≤ ((i - 1 : Nat) : Int) by omega, show ((i - 1 : Nat) : Int) < (l.length : Int) by omega, im, ir, show ¬ (prk l (i - 1) ≥ prk l i) by omega, if_false]
            exact h2
          · rw [h3]
            constructor
            · rintro ⟨x, y⟩
              refine ⟨fun j a b => ?_, fun j a b => ?_⟩
              · by_cases q : j = i
                · rw [q]; exact hc
                · exact x j (by omega) b
              · by_cases q : j + 1 = i
                · have : j = i - 1 := by omega
                  rw [this, ei]; exact hr
                · exact y j (by omega) b
            · rintro ⟨x, y⟩
              exact ⟨fun j a b => x j (by omega) b, fun j a b => y j (by omega) b⟩
        · refine ⟨false, M.Ev_succ (M.Ev_some fun k => ?_), M.Ev_succ (M.Ev_some fun k => ?_), ?_⟩
          · simp only [spec_isGood.l0, show (i : Int) < (l.length : Int) by omega, show (0 : Int) ≤ (i : Int) by omega, if_true, sp, hc, Option.bind_some, show ((i : Int) > 0) by omega, e, em, show (0 : Int) ≤ ((i - 1 : Nat) : Int) by omega, show ((i - 1 : Nat) : Int) < (l.length : Int) by omega, sm, sr, show (prk l (i - 1) ≥ prk l i) by omega]
          · simp only [impl_ArePlates.l0, show (i : Int) < (l.length : Int) by omega, show (0 : Int) ≤ (i : Int) by omega, if_true, ip, hc, Option.bind_some, show ((i : Int) > 0) by omega, e, em, show (0 : Int) ≤ ((i - 1 : Nat) : Int) by omega, show ((i - 1 : Nat) : Int) < (l.length : Int) by omega, im, ir, show (prk l (i - 1) ≥ prk l i) by omega, Bool.false_and]
          · simp only [Bool.false_eq_true, false_iff]
            rintro ⟨x, y⟩
            have := y (i - 1) (by omega) (by omega)
            rw [ei] at this
            exact hr this
    · refine ⟨false, M.Ev_succ (M.Ev_some fun k => ?_), M.Ev_succ (M.Ev_some fun k => ?_), ?_⟩
      · simp only [spec_isGood.l0, show (i : Int) < (l.length : Int) by omega, show (0 : Int) ≤ (i : Int) by omega, if_true, sp, hc, Option.bind_some, Bool.false_eq_true, if_false]
      · simp only [impl_ArePlates.l0, show (i : Int) < (l.length : Int) by omega, show (0 : Int) ≤ (i : Int) by omega, if_true, ip, hc, Option.bind_some, Bool.false_eq_true, if_false, Bool.false_and]
      · simp only [Bool.false_eq_true, false_iff]
        rintro ⟨x, _⟩
        exact hc (x i (by omega) (by omega))
theorem good_both (l : List S43) (hl : l.length ≤ 9000000000000000000) : ∃ b : Bool, Ev (fun k => spec_isGood.f k l) b ∧ Ev (fun k => impl_ArePlates.f k l) b ∧ (b = true ↔ Good l) := by
  obtain ⟨b, h1, h2, h3⟩ := good_loops l hl l.length 0 (by omega) (by omega) (fun h => by omega)
  refine ⟨b && decide (1 ≤ l.length ∧ l.length ≤ 60), ?_, ?_, ?_⟩
  · unfold spec_isGood.f
    rw [spec_l1In_eq]
    simp only [Option.bind_some]
    by_cases c : 1 ≤ l.length ∧ l.length ≤ 60
    · have c' : (1 : Int) ≤ (l.length : Int) ∧ (l.length : Int) ≤ 60 := by omega
      simp only [c, c', and_self, decide_true, if_true, Bool.and_true]
      exact h1
    · have c' : ¬ ((1 : Int) ≤ (l.length : Int) ∧ (l.length : Int) ≤ 60) := by omega
      simp only [c, c', decide_false, Bool.and_false]
      exact M.Ev_some fun k => by simp
  · unfold impl_ArePlates.f; exact h2
  · unfold Good
    simp only [Bool.and_eq_true, decide_eq_true_eq, h3]
    constructor
    · rintro ⟨⟨x, y⟩, a, b⟩
      exact ⟨a, b, fun i h => x i (by omega) h, fun i h => y i (by omega) h⟩
    · rintro ⟨a, b, x, y⟩
      exact ⟨⟨fun i _ h => x i h, fun i _ h => y i h⟩, a, b⟩
theorem good_mono {l : List S43} (h : Good l) : ∀ (d i : Nat), i + 1 + d < l.length → prk l i < prk l (i + 1 + d) := by
  intro d
  induction d with
  | zero => intro i hi; exact h.2.2.2 i hi
  | succ d ih =>
    intro i hi
    have a := ih i (by omega)
    have b := h.2.2.2 (i + 1 + d) (by omega)
    have e : i + 1 + (d + 1) = i + 1 + d + 1 := by omega
    rw [e]
    omega
theorem good_lt {l : List S43} (h : Good l) {i j : Nat} (hij : i < j) (hj : j < l.length) : prk l i < prk l j := by
  have := good_mono h (j - i - 1) i (by omega)
  have e : i + 1 + (j - i - 1) = j := by omega
  rwa [e] at this
theorem isPlace_loop (l : List S43) (hg : Good l) (a b : Int) (hp : M.plateB a b = true) : ∀ (d i : Nat), i ≤ l.length → l.length - i = d → (∀ j, j < i → prk l j < M.rank a b) →
    ∃ m : Nat, i ≤ m ∧ m ≤ l.length ∧ (∀ j, j < m → prk l j < M.rank a b) ∧ (m < l.length → M.rank a b ≤ prk l m) ∧ Ev (fun k => spec_isPlace.l0 k l (i : Int) a b) ((m : Int), decide (m < l.length ∧ pn l m = a ∧ pl l m = b)) := by
  intro d
  induction d with
  | zero =>
    intro i hi hd hj
    have hil : ¬ i < l.length := by omega
    refine ⟨i, Nat.le_refl _, hi, hj, fun h => by omega, M.Ev_succ (M.Ev_some fun k => ?_)⟩
    simp only [spec_isPlace.l0]
    rw [if_neg (by omega), decide_eq_false (fun z => hil z.1)]
  | succ d ih =>
    intro i hi hd hj
    have hil : i < l.length := by omega
    have hc := hg.2.2.1 i hil
    have e : wrap64 ((i : Int) + 1) = ((i + 1 : Nat) : Int) := by
      have := hg.2.1
      rw [M.w64 (by omega) (by omega)]; omega
    have sr : spec_isRank.f ((rd_T43 l (i : Int)).f0) ((rd_T43 l (i : Int)).f1) = some (prk l i) := spec_isRank_eq hc
    by_cases hr : prk l i < M.rank a b
    · obtain ⟨m, h1, h2, h3, h4, h5⟩ := ih (i + 1) (by omega) (by omega) (fun j hj' => by
        by_cases q : j = i
        · rw [q]; exact hr
        · exact hj j (by omega))
      refine ⟨m, by omega, h2, h3, h4, M.Ev_succ ?_⟩
      simp only [spec_isPlace.l0, show (i : Int) < (l.length : Int) by omega, show (0 : Int) ≤ (i : Int) by omega, if_true, sr, spec_isRank_eq hp, Option.bind_some, hr, e]
      exact h5
    · refine ⟨i, Nat.le_refl _, hi, hj, fun _ => by omega, M.Ev_succ (M.Ev_some fun k => ?_)⟩
      simp only [spec_isPlace.l0, show (i : Int) < (l.length : Int) by omega, show (0 : Int) ≤ (i : Int) by omega, if_true, sr, spec_isRank_eq hp, Option.bind_some, hr, if_false, Option.some.injEq, Prod.mk.injEq, true_and]
      show (pn l i == a && (pl l i == b)) = decide (i < l.length ∧ pn l i = a ∧ pl l i = b)
      rw [Bool.eq_iff_iff]
      simp [hil]
theorem isPlace_ev (l : List S43) (hg : Good l) (a b : Int) (hp : M.plateB a b = true) :
    ∃ m : Nat, m ≤ l.length ∧ (∀ j, j < m → prk l j < M.rank a b) ∧ (m < l.length → M.rank a b ≤ prk l m) ∧ Ev (fun k => spec_isPlace.f k l a b) ((m : Int), decide (m < l.length ∧ pn l m = a ∧ pl l m = b)) := by
  obtain ⟨m, _, h2, h3, h4, h5⟩ := isPlace_loop l hg a b hp l.length 0 (by omega) (by omega) (fun j hj => by omega)
  exact ⟨m, h2, h3, h4, h5⟩
/-- A plate is in a list where it stands in its place, and only there. -/
theorem place_of {l : List S43} (hg : Good l) {a b : Int} {m : Nat} (h3 : ∀ j, j < m → prk l j < M.rank a b) (h4 : m < l.length → M.rank a b ≤ prk l m) {j : Nat} (hj : j < l.length) (e : pn l j = a ∧ pl l j = b) : j = m := by
  have er : prk l j = M.rank a b := by unfold prk; rw [e.1, e.2]
  by_cases c : j < m
  · have := h3 j c; omega
  · by_cases c2 : m < j
    · have := good_lt hg c2 hj
      have := h4 (by omega)
      omega
    · omega
def cmpI (a b : Int) : Int := if a < b then -1 else if b < a then 1 else 0
theorem cmp_Compare_eq (x y : Int) : cmp_Compare_int.f x y = some (cmpI x y) := by
  unfold cmp_Compare_int.f cmp_isNaN_int.f cmpI
  simp only [Option.bind_some, bne_self_eq_false, Bool.false_eq_true, if_false, gt_iff_lt]
  repeat' split
  all_goals rfl
theorem cmpI_neg (a b : Int) : cmpI a b < 0 ↔ a < b := by
  unfold cmpI
  repeat' split
  all_goals omega
theorem cmpI_zero (a b : Int) : cmpI a b = 0 ↔ a = b := by
  unfold cmpI
  repeat' split
  all_goals omega
theorem comparePlates_eq {a b c d : Int} (h : M.plateB a b = true) (h' : M.plateB c d = true) : impl_comparePlates.f a b c d = some (cmpI (M.rank a b) (M.rank c d)) := by
  unfold impl_comparePlates.f
  rw [impl_rankOf_eq h, impl_rankOf_eq h']
  simp only [Option.bind_some, cmp_Compare_eq]
theorem search_loop (l : List S43) (hg : Good l) (a b : Int) (hp : M.plateB a b = true) : ∀ (d lo hi : Nat), hi - lo ≤ d → lo ≤ hi → hi ≤ l.length → (∀ t, t < lo → prk l t < M.rank a b) → (∀ t, hi ≤ t → t < l.length → M.rank a b ≤ prk l t) →
    ∃ (m : Nat) (q : Bool), m ≤ l.length ∧ (∀ t, t < m → prk l t < M.rank a b) ∧ (∀ t, m ≤ t → t < l.length → M.rank a b ≤ prk l t) ∧ Ev (fun k => impl_Plate_71.l0 k l (l.length : Int) (lo : Int) (hi : Int) a b) ((m : Int), q) := by
  have hl60 := hg.2.1
  intro d
  induction d with
  | zero =>
    intro lo hi hd hle hlen h1 h2
    obtain rfl : lo = hi := by omega
    by_cases c : lo < l.length
    · have cc := comparePlates_eq (hg.2.2.1 lo c) hp
      refine ⟨lo, (cmpI (prk l lo) (M.rank a b) == 0), hlen, h1, h2, M.Ev_succ (M.Ev_some fun k => ?_)⟩
      simp only [impl_Plate_71.l0, show ¬ ((lo : Int) < (lo : Int)) by omega, if_false, show (lo : Int) < (l.length : Int) by omega, show (0 : Int) ≤ (lo : Int) by omega, if_true]
      rw [show impl_comparePlates.f (rd_T43 l (lo : Int)).f0 (rd_T43 l (lo : Int)).f1 a b = _ from cc]
      rfl
    · refine ⟨lo, false, hlen, h1, h2, M.Ev_succ (M.Ev_some fun k => ?_)⟩
      simp only [impl_Plate_71.l0, show ¬ ((lo : Int) < (lo : Int)) by omega, if_false, show ¬ ((lo : Int) < (l.length : Int)) by omega]
  | succ d ih =>
    intro lo hi hd hle hlen h1 h2
    by_cases c0 : lo < hi
    · have em : wrap64 ((IntKind.u64.wrap (wrap64 ((lo : Int) + (hi : Int)))) / 2) = (((lo + hi) / 2 : Nat) : Int) := by
        rw [M.w64 (x := (lo : Int) + (hi : Int)) (by omega) (by omega), M.u64 (by omega) (by omega), M.w64 (by omega) (by omega)]; omega
      have hm : (lo + hi) / 2 < l.length := by omega
      have e1 : wrap64 ((((lo + hi) / 2 : Nat) : Int) + 1) = (((lo + hi) / 2 + 1 : Nat) : Int) := by rw [M.w64 (by omega) (by omega)]; omega
      have cc : impl_comparePlates.f (rd_T43 l (((lo + hi) / 2 : Nat) : Int)).f0 (rd_T43 l (((lo + hi) / 2 : Nat) : Int)).f1 a b = some (cmpI (prk l ((lo + hi) / 2)) (M.rank a b)) := comparePlates_eq (hg.2.2.1 _ hm) hp
      by_cases cr : prk l ((lo + hi) / 2) < M.rank a b
      · obtain ⟨m, q, g1, g2, g3, g4⟩ := ih ((lo + hi) / 2 + 1) hi (by omega) (by omega) hlen (fun t ht => by
          by_cases q : t = (lo + hi) / 2
          · rw [q]; exact cr
          · have := good_lt hg (i := t) (j := (lo + hi) / 2) (by omega) hm
            omega) h2
        refine ⟨m, q, g1, g2, g3, M.Ev_succ ?_⟩
        simp only [impl_Plate_71.l0, show (lo : Int) < (hi : Int) by omega, if_true, em, show (0 : Int) ≤ (((lo + hi) / 2 : Nat) : Int) by omega, show (((lo + hi) / 2 : Nat) : Int) < (l.length : Int) by omega, cc, Option.bind_some, (cmpI_neg _ _).2 cr, e1]
        exact g4
      · obtain ⟨m, q, g1, g2, g3, g4⟩ := ih lo ((lo + hi) / 2) (by omega) (by omega) (by omega) h1 (fun t ht ht2 => by
          by_cases q : t = (lo + hi) / 2
          · rw [q]; omega
          · have := good_lt hg (i := (lo + hi) / 2) (j := t) (by omega) ht2
            omega)
        refine ⟨m, q, g1, g2, g3, M.Ev_succ ?_⟩
        have ncr : ¬ cmpI (prk l ((lo + hi) / 2)) (M.rank a b) < 0 := fun z => cr ((cmpI_neg _ _).1 z)
        simp only [impl_Plate_71.l0, show (lo : Int) < (hi : Int) by omega, if_true, em, show (0 : Int) ≤ (((lo + hi) / 2 : Nat) : Int) by omega, show (((lo + hi) / 2 : Nat) : Int) < (l.length : Int) by omega, cc, Option.bind_some, ncr, if_false]
        exact g4
    · obtain ⟨m, q, g1, g2, g3, g4⟩ := ih lo hi (by omega) hle hlen h1 h2
      exact ⟨m, q, g1, g2, g3, g4⟩
theorem clonePlates_eq (l : List S43) (h : l.length ≤ 1000000) : impl_Plate_69.f l = some l := by
  unfold impl_Plate_69.f
  simp only [Option.bind_some, List.length_nil, Nat.zero_add, List.nil_append]
  rw [if_pos (by omega)]
/-- PartPlates: both part the list where the plate stands or would stand. -/
theorem PartPlates_ev (l : List S43) (hl : l.length ≤ 1000000000000) (a b : Int) : ∃ r : List S43 × List S43 × Bool, Ev (fun k => spec_PartPlates.f k l a b) r ∧ Ev (fun k => impl_PartPlates.f k l a b) r ∧
    (r = ([], [], false) ∨ (Good l ∧ M.plateB a b = true ∧ ∃ m : Nat, 0 < m ∧ m < l.length ∧ (∀ j, j < m → prk l j < M.rank a b) ∧ M.rank a b ≤ prk l m ∧ r = (l.take m, l.drop m, true))) := by
  obtain ⟨g, h1, h2, h3⟩ := good_both l (by omega)
  unfold spec_PartPlates.f impl_PartPlates.f
  cases g with
  | false =>
    exact ⟨([], [], false), Ev.bind h1 (M.Ev_succ (M.Ev_some fun k => by simp [spec_PartPlates.j0])), Ev.bind h2 (M.Ev_succ (M.Ev_some fun k => by simp [impl_PartPlates.j0])), .inl rfl⟩
  | true =>
    have hg : Good l := h3.1 rfl
    have hl60 := hg.2.1
    by_cases hp : M.plateB a b = true
    · obtain ⟨m, m1, m2, m3, m4⟩ := isPlace_ev l hg a b hp
      obtain ⟨n, q, n1, n2, n3, n4⟩ := search_loop l hg a b hp l.length 0 l.length (by omega) (by omega) (by omega) (fun t ht => by omega) (fun t ht ht2 => by omega)
      have enm : n = m := by
        by_cases c : n < m
        · have := m2 n c
          have := n3 n (Nat.le_refl _) (by omega)
          omega
        · by_cases c2 : m < n
          · have := n2 m c2
            have := m3 (by omega)
            omega
          · omega
      subst enm
      have hs : Ev (fun k => impl_Plate_71.f k l a b 7777072) ((n : Int), q) := n4
      by_cases c : 0 < n ∧ n < l.length
      · refine ⟨(l.take n, l.drop n, true), Ev.bind h1 ?_, Ev.bind h2 ?_, .inr ⟨hg, hp, n, c.1, c.2, m2, m3 c.2, rfl⟩⟩
        · simp only [if_true, spec_isPlate_eq, hp, Option.bind_some, Bool.not_true]
          refine M.Ev_succ ?_
          simp only [spec_PartPlates.j0, Bool.false_eq_true, if_false]
          refine Ev.bind m4 (M.Ev_some fun k => ?_)
          rw [if_neg (by omega), if_neg (by omega)]
          simp only [Option.bind_some, Int.toNat_natCast, List.length_nil, Nat.zero_add, List.nil_append]
          rw [if_pos (by omega), if_pos (by omega), if_pos (by rw [List.length_take]; omega), if_pos (by rw [List.length_drop]; omega)]
        · simp only [if_true, impl_IsPlate_eq, hp, Option.bind_some, Bool.not_true]
          refine M.Ev_succ ?_
          simp only [impl_PartPlates.j0, Bool.false_eq_true, if_false]
          refine Ev.bind hs ?_
          simp only [show ¬ ((n : Int) = 0) by omega, if_false]
          refine M.Ev_succ (M.Ev_some fun k => ?_)
          have e : ((n : Int) == (l.length : Int)) = false := by simp; omega
          simp only [impl_PartPlates.j1, e, Bool.false_eq_true, if_false, show (0 : Int) ≤ (n : Int) by omega, if_true, show (n : Int) ≤ (l.length : Int) by omega, Int.toNat_natCast]
          rw [clonePlates_eq _ (by rw [List.length_take]; omega), clonePlates_eq _ (by rw [List.length_drop]; omega)]
          rfl
      · refine ⟨([], [], false), Ev.bind h1 ?_, Ev.bind h2 ?_, .inl rfl⟩
        · simp only [if_true, spec_isPlate_eq, hp, Option.bind_some, Bool.not_true]
          refine M.Ev_succ ?_
          simp only [spec_PartPlates.j0, Bool.false_eq_true, if_false]
          refine Ev.bind m4 (M.Ev_some fun k => ?_)
          by_cases z : n = 0
          · rw [if_pos (by omega)]
          · rw [if_neg (by omega), if_pos (by omega)]
        · simp only [if_true, impl_IsPlate_eq, hp, Option.bind_some, Bool.not_true]
          refine M.Ev_succ ?_
          simp only [impl_PartPlates.j0, Bool.false_eq_true, if_false]
          refine Ev.bind hs ?_
          by_cases z : n = 0
          · simp only [show ((n : Int) = 0) by omega, if_true]
            exact M.Ev_succ (M.Ev_some fun k => by simp [impl_PartPlates.j1])
          · simp only [show ¬ ((n : Int) = 0) by omega, if_false]
            refine M.Ev_succ (M.Ev_some fun k => ?_)
            have e : ((n : Int) == (l.length : Int)) = true := by simp; omega
            simp only [impl_PartPlates.j1, e, if_true]
    · refine ⟨([], [], false), Ev.bind h1 ?_, Ev.bind h2 ?_, .inl rfl⟩
      · simp only [if_true, spec_isPlate_eq, Option.bind_some]
        exact M.Ev_succ (M.Ev_some fun k => by simp [spec_PartPlates.j0, hp])
      · simp only [if_true, impl_IsPlate_eq, Option.bind_some]
        exact M.Ev_succ (M.Ev_some fun k => by simp [impl_PartPlates.j0, hp])
theorem part_len {l : List S43} (hl : l.length ≤ 1000000000000) {r : List S43 × List S43 × Bool} {a b : Int} (h : r = ([], [], false) ∨ (Good l ∧ M.plateB a b = true ∧ ∃ m : Nat, 0 < m ∧ m < l.length ∧ (∀ j, j < m → prk l j < M.rank a b) ∧ M.rank a b ≤ prk l m ∧ r = (l.take m, l.drop m, true))) : r.1.length ≤ 1000000 ∧ r.2.1.length ≤ 1000000 := by
  rcases h with rfl | ⟨hg, _, m, _, _, _, _, rfl⟩
  · simp
  · have := hg.2.1
    simp only [List.length_take, List.length_drop]
    omega
theorem toPlate_eq (n l : Int) : laws_toPlate.f n l = some (n, l) := rfl
def conv (l : List S41) : List S43 := l.map fun p => ⟨p.f0, p.f1⟩
theorem conv_length (l : List S41) : (conv l).length = l.length := by simp [conv]
theorem toPlateS_loop (l : List S41) (hl : l.length ≤ 1000000000000) : ∀ (d i : Nat) (acc : List S43), i ≤ l.length → l.length - i = d → acc.length = l.length → acc.take i = (conv l).take i →
    Ev (fun k => laws_toPlateS.l0 k l acc (i : Int)) (conv l) := by
  intro d
  induction d with
  | zero =>
    intro i acc hi hd ha ht
    obtain rfl : i = l.length := by omega
    refine M.Ev_succ (M.Ev_some fun k => ?_)
    simp only [laws_toPlateS.l0]
    rw [if_neg (by omega)]
    rw [List.take_of_length_le (by omega), List.take_of_length_le (by rw [conv_length]; omega)] at ht
    rw [ht]
  | succ d ih =>
    intro i acc hi hd ha ht
    have hil : i < l.length := by omega
    have e : wrap64 ((i : Int) + 1) = ((i + 1 : Nat) : Int) := by rw [M.w64 (by omega) (by omega)]; omega
    refine M.Ev_succ ?_
    simp only [laws_toPlateS.l0, show (i : Int) < (l.length : Int) by omega, show (0 : Int) ≤ (i : Int) by omega, if_true, toPlate_eq, Option.bind_some, show (i : Int) < (acc.length : Int) by omega, e, Int.toNat_natCast]
    refine ih (i + 1) _ (by omega) (by omega) (by rw [List.length_set]; exact ha) ?_
    have hr : rd_T41 l (i : Int) = l[i] := by
      unfold rd_T41
      rw [Int.toNat_natCast, List.getD_eq_getElem?_getD, List.getElem?_eq_getElem hil]; rfl
    rw [List.take_succ_eq_append_getElem (by rw [List.length_set]; omega), List.take_succ_eq_append_getElem (by rw [conv_length]; omega), List.take_set, List.set_eq_of_length_le (by simp; omega), ht]
    congr 1
    simp [conv, hr]
theorem toPlateS_ev (l : List S41) (hl : l.length ≤ 1000000000000) : Ev (fun k => laws_toPlateS.f k l) (conv l) := by
  unfold laws_toPlateS.f
  simp only [show (0 : Int) ≤ (l.length : Int) by omega, if_true, Int.toNat_natCast, show l.length ≤ 17592186044416 by omega]
  exact toPlateS_loop l hl l.length 0 _ (by omega) (by omega) (by simp) (by simp)
theorem eqPlate_refl (n l : Int) : laws_eqPlate.f n l n l = some true := by
  unfold laws_eqPlate.f; rw [if_pos rfl, if_pos rfl]
theorem eqPlateS_loop (l : List S43) (hl : l.length ≤ 1000000000000) : ∀ (d i : Nat), i ≤ l.length → l.length - i = d → Ev (fun k => laws_eqPlateS.l0 k l l (i : Int)) true := by
  intro d
  induction d with
  | zero =>
    intro i hi hd
    refine M.Ev_succ (M.Ev_some fun k => ?_)
    simp only [laws_eqPlateS.l0]
    rw [if_neg (by omega)]
  | succ d ih =>
    intro i hi hd
    have e : wrap64 ((i : Int) + 1) = ((i + 1 : Nat) : Int) := by rw [M.w64 (by omega) (by omega)]; omega
    refine M.Ev_succ ?_
    simp only [laws_eqPlateS.l0, show (i : Int) < (l.length : Int) by omega, show (0 : Int) ≤ (i : Int) by omega, if_true, eqPlate_refl, Option.bind_some, e]
    exact ih (i + 1) (by omega) (by omega)
theorem eqPlateS_ev (l : List S43) (hl : l.length ≤ 1000000000000) : Ev (fun k => laws_eqPlateS.f k l l) true := by
  unfold laws_eqPlateS.f
  simp only [if_true]
  exact eqPlateS_loop l hl l.length 0 (by omega) (by omega)
/-- What marking leaves: m, m+1 in the first one, and so on. -/
def runP (m : Int) (n : Nat) : List S43 := (List.range n).map fun (i : Nat) => ⟨m + 2 * (i : Int), m + 2 * (i : Int) + 1⟩
theorem runP_length (m : Int) (n : Nat) : (runP m n).length = n := by simp [runP]
theorem runP_get (m : Int) (n i : Nat) (h : i < (runP m n).length) : (runP m n)[i] = ⟨m + 2 * (i : Int), m + 2 * (i : Int) + 1⟩ := by simp [runP]
theorem rdT_get {l : List S43} {i : Nat} (h : i < l.length) : rd_T43 l (i : Int) = l[i] := by
  unfold rd_T43
  rw [Int.toNat_natCast, List.getD_eq_getElem?_getD, List.getElem?_eq_getElem h]; rfl
theorem markPlateS_loop (n : Nat) (hn : n ≤ 1000000000000) (m : Int) (hm : 0 ≤ m) (hm2 : m ≤ 1000000000000) : ∀ (d i : Nat) (acc : List S43), i ≤ n → n - i = d → acc.length = n → acc.take i = (runP m n).take i →
    Ev (fun k => laws_markPlateS.l0 k acc (m + 2 * (i : Int)) (i : Int)) (m + 2 * (n : Int), runP m n) := by
  intro d
  induction d with
  | zero =>
    intro i acc hi hd ha ht
    obtain rfl : i = n := by omega
    refine M.Ev_succ (M.Ev_some fun k => ?_)
    simp only [laws_markPlateS.l0]
    rw [if_neg (by omega), M.take_all ha (runP_length _ _) ht]
  | succ d ih =>
    intro i acc hi hd ha ht
    have e : wrap64 ((i : Int) + 1) = ((i + 1 : Nat) : Int) := by rw [M.w64 (by omega) (by omega)]; omega
    have e2 : wrap64 (m + 2 * (i : Int) + 1) = m + 2 * (i : Int) + 1 := M.w64 (by omega) (by omega)
    have e3 : wrap64 (m + 2 * (i : Int) + 1 + 1) = m + 2 * ((i + 1 : Nat) : Int) := by rw [M.w64 (by omega) (by omega)]; omega
    refine M.Ev_succ ?_
    simp only [laws_markPlateS.l0, show (i : Int) < (acc.length : Int) by omega, show (0 : Int) ≤ (i : Int) by omega, if_true, e, e2, e3, Int.toNat_natCast, Option.bind_some]
    have hs : ∀ v : S43, rd_T43 (acc.set i v) (i : Int) = v := fun v => by
      rw [rdT_get (by rw [List.length_set]; omega)]; simp
    simp only [hs, List.set_set]
    refine ih (i + 1) _ (by omega) (by omega) (by rw [List.length_set]; exact ha) ?_
    exact M.take_set_succ (by omega) (by rw [runP_length]; omega) ht (by rw [runP_get])
theorem markPlateS_ev (l : List S43) (hl : l.length ≤ 1000000000000) (m : Int) (hm : 0 ≤ m) (hm2 : m ≤ 1000000000000) : Ev (fun k => laws_markPlateS.f k l m) (m + 2 * (l.length : Int), runP m l.length) := by
  unfold laws_markPlateS.f
  have := markPlateS_loop l.length hl m hm hm2 l.length 0 l (by omega) (by omega) rfl (by simp)
  simpa using this
theorem heldPlateS_loop (n : Nat) (hn : n ≤ 1000000000000) (m : Int) (hm : 0 ≤ m) (hm2 : m ≤ 1000000000000) : ∀ (d i : Nat), i ≤ n → n - i = d → Ev (fun k => laws_heldPlateS.l0 k (runP m n) (m + 2 * (i : Int)) (i : Int)) (m + 2 * (n : Int)) := by
  intro d
  induction d with
  | zero =>
    intro i hi hd
    obtain rfl : i = n := by omega
    refine M.Ev_succ (M.Ev_some fun k => ?_)
    simp only [laws_heldPlateS.l0]
    rw [if_neg (by rw [runP_length]; omega)]
  | succ d ih =>
    intro i hi hd
    have e : wrap64 ((i : Int) + 1) = ((i + 1 : Nat) : Int) := by rw [M.w64 (by omega) (by omega)]; omega
    have e2 : wrap64 (m + 2 * (i : Int) + 1) = m + 2 * (i : Int) + 1 := M.w64 (by omega) (by omega)
    have e3 : wrap64 (m + 2 * (i : Int) + 1 + 1) = m + 2 * ((i + 1 : Nat) : Int) := by rw [M.w64 (by omega) (by omega)]; omega
    have hr : rd_T43 (runP m n) (i : Int) = ⟨m + 2 * (i : Int), m + 2 * (i : Int) + 1⟩ := by rw [rdT_get (by rw [runP_length]; omega), runP_get]
    refine M.Ev_succ ?_
    simp only [laws_heldPlateS.l0, show (i : Int) < ((runP m n).length : Int) by rw [runP_length]; omega, show (0 : Int) ≤ (i : Int) by omega, if_true, hr, e, e2, e3]
    exact ih (i + 1) (by omega) (by omega)
theorem heldPlateS_ev (n : Nat) (hn : n ≤ 1000000000000) (m : Int) (hm : 0 ≤ m) (hm2 : m ≤ 1000000000000) : Ev (fun k => laws_heldPlateS.f k (runP m n) m) (m + 2 * (n : Int)) := by
  unfold laws_heldPlateS.f
  have := heldPlateS_loop n hn m hm hm2 n 0 (by omega) (by omega)
  simpa using this
theorem sz_big (l : List S41) (hl : l.length * 16 ≤ 140737488351232) (c : 1048576 < l.length) : laws_szPlateS.f l 1048576 = some (-1) := by
  unfold laws_szPlateS.f
  rw [M.w64 (x := 1048576 - (l.length : Int)) (by omega) (by omega), if_pos (by omega)]
theorem sz_small (l : List S41) (c : ¬ 1048576 < l.length) : laws_szPlateS.f l 1048576 = some (1048576 - (l.length : Int)) := by
  unfold laws_szPlateS.f
  rw [M.w64 (x := 1048576 - (l.length : Int)) (by omega) (by omega), if_neg (by omega)]
def laws_FnExactPartPlates.Pure : Prop := ∀ (l0 : List S41) (a1_0 a1_1 : Int), (∀ x ∈ l0, (Lit.int .i64 x.f0).wf = true ∧ (Lit.int .i64 x.f1).wf = true) → l0.length * 16 ≤ 140737488351232 → (Lit.int .i64 a1_0).wf = true → (Lit.int .i64 a1_1).wf = true → ∃ k, laws_FnExactPartPlates.f k l0 a1_0 a1_1 = some true
theorem FnExactPartPlates : laws_FnExactPartPlates.Pure := by
  intro l a b _ hl _ _
  refine Ev.rounds (r := true) ?_
  unfold laws_FnExactPartPlates.f
  by_cases c : 1048576 < l.length
  · simp only [sz_big l hl c, Option.bind_some]; exact M.Ev_some fun k => rfl
  · simp only [sz_small l c, Option.bind_some, show ¬ ((1048576 : Int) - (l.length : Int) < 0) by omega, if_false, toPlate_eq]
    have hc : (conv l).length ≤ 1000000000000 := by rw [conv_length]; omega
    obtain ⟨r, h1, h2, h3⟩ := PartPlates_ev (conv l) hc a b
    obtain ⟨hr1, hr2⟩ := part_len (a := a) (b := b) hc h3
    have ht := toPlateS_ev l (by omega)
    refine Ev.bind ht (Ev.bind h1 (Ev.bind ht (Ev.bind h2 (Ev.bind (eqPlateS_ev r.1 (by omega)) ?_))))
    simp only [if_true]
    refine Ev.bind (eqPlateS_ev r.2.1 (by omega)) ?_
    simp only [if_true, bne_self_eq_false]
    refine M.Ev_succ ?_
    simp only [laws_FnExactPartPlates.j0, Bool.false_eq_true, if_false]
    refine Ev.bind ht (Ev.bind (eqPlateS_ev (conv l) hc) ?_)
    simp only [if_true]
    refine Ev.bind (markPlateS_ev (conv l) hc 1 (by omega) (by omega)) ?_
    simp only [show ¬ ((1 : Int) + 2 * ((conv l).length : Int) < 0) by omega, if_false]
    refine Ev.bind (eqPlateS_ev r.1 (by omega)) ?_
    simp only [if_true]
    refine Ev.bind (eqPlateS_ev r.2.1 (by omega)) ?_
    simp only [if_true, bne_self_eq_false]
    refine M.Ev_succ ?_
    simp only [laws_FnExactPartPlates.j1, Bool.false_eq_true, if_false]
    refine Ev.bind (markPlateS_ev r.1 (by omega) 1 (by omega) (by omega)) (Ev.bind (markPlateS_ev r.2.1 (by omega) _ (by omega) (by omega)) (Ev.bind (heldPlateS_ev r.1.length (by omega) 1 (by omega) (by omega)) ?_))
    simp only [show ¬ ((1 : Int) + 2 * (r.1.length : Int) < 0) by omega, if_false]
    refine Ev.bind (heldPlateS_ev r.2.1.length (by omega) _ (by omega) (by omega)) ?_
    simp only [show ¬ ((1 : Int) + 2 * (r.1.length : Int) + 2 * (r.2.1.length : Int) < 0) by omega, if_false, if_true, toPlate_eq, Option.bind_some]
    refine Ev.bind ht (Ev.bind h2 (Ev.bind (eqPlateS_ev r.1 (by omega)) ?_))
    simp only [if_true]
    refine Ev.bind (eqPlateS_ev r.2.1 (by omega)) ?_
    simp only [if_true, bne_self_eq_false]
    refine M.Ev_succ ?_
    simp only [laws_FnExactPartPlates.j2, Bool.false_eq_true, if_false]
    refine Ev.bind (heldPlateS_ev r.1.length (by omega) 1 (by omega) (by omega)) ?_
    simp only [show ¬ ((1 : Int) + 2 * (r.1.length : Int) < 0) by omega, if_false]
    refine Ev.bind (heldPlateS_ev r.2.1.length (by omega) _ (by omega) (by omega)) (M.Ev_some fun k => ?_)
    rw [if_neg (by omega), if_pos rfl]

end Go.Proofs.Ytgjgbdpfjohaaaa.Pure
