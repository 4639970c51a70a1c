/- The program's PlaceOfPlate and the reference's answer the same for all lists and pairs of numbers, and the argument stays as it was: no further condition. -/
import Derived.Test.YtgjgbdpfjohaaaaM
import Derived.Test.YtgjgbdpfjohaaaaPFnExactPlaceOfPlatex7
namespace Go.Proofs.Ytgjgbdpfjohaaaa.Pure
open Go.RowKit Go.Proofs.Ytgjgbdpfjohaaaa.PFnExactPlaceOfPlate Go.Proofs.YtgjgbdpfjohaaaaW.PrintWords Go.Proofs.YtgjgbdpfjohaaaaW.PrintLast Go.Proofs.YtgjgbdpfjohaaaaW.PrintMore
set_option linter.unusedVariables false
set_option linter.unusedSimpArgs false
theorem spec_l1In_eq (a b c : Int) : spec_l1In.f a b c = some (decide (b ≤ a ∧ a ≤ c)) := by
  unfold spec_l1In.f
  by_cases h : a ≥ b
  · rw [if_pos h]; simp [show b ≤ a from h]
  · rw [if_neg h]; simp [show ¬ b ≤ a from h]
theorem impl_within_eq (a b c : Int) : impl_within.f a b c = some (decide (b ≤ a ∧ a ≤ c)) := by
  unfold impl_within.f
  by_cases h : a ≥ b
  · rw [if_pos h]; simp [show b ≤ a from h]
  · rw [if_neg h]; simp [show ¬ b ≤ a from h]
theorem spec_isPlate_eq (n l : Int) : spec_isPlate.f n l = some (M.plateB n l) := by
  unfold spec_isPlate.f M.plateB
  simp only [spec_l1In_eq, Option.bind_some]
  by_cases h : 1 ≤ n ∧ n ≤ 9999 <;> simp [h]
theorem impl_IsPlate_eq (n l : Int) : impl_IsPlate.f n l = some (M.plateB n l) := by
  unfold impl_IsPlate.f M.plateB
  simp only [impl_within_eq, Option.bind_some]
  by_cases h : 1 ≤ n ∧ n ≤ 9999 <;> simp [h]
theorem spec_isRank_eq {n l : Int} (h : M.plateB n l = true) : spec_isRank.f n l = some (M.rank n l) := by
  have h' := M.plateB_iff.1 h
  unfold spec_isRank.f M.rank
  rw [M.w64 (x := 27 * n) (by omega) (by omega), M.w64 (by omega) (by omega), Int.mul_comm]
theorem impl_rankOf_eq {n l : Int} (h : M.plateB n l = true) : impl_rankOf.f n l = some (M.rank n l) := by
  have h' := M.plateB_iff.1 h
  unfold impl_rankOf.f M.rank
  rw [M.w64 (x := n * 27) (by omega) (by omega), M.w64 (by omega) (by omega)]
def pn (l : List S43) (i : Nat) : Int := (rd_T43 l (i : Int)).f0
def pl (l : List S43) (i : Nat) : Int := (rd_T43 l (i : Int)).f1
def prk (l : List S43) (i : Nat) : Int := M.rank (pn l i) (pl l i)
/-- Plates: 1 to 60 of them, each a plate, one behind the other. -/
def Good (l : List S43) : Prop := 1 ≤ l.length ∧ l.length ≤ 60 ∧ (∀ i, i < l.length → M.plateB (pn l i) (pl l i) = true) ∧ ∀ i, i + 1 < l.length → prk l i < prk l (i + 1)
theorem good_loops (l : List S43) (hl : l.length ≤ 9000000000000000000) : ∀ (d i : Nat), i ≤ l.length → l.length - i = d → (0 < i → M.plateB (pn l (i - 1)) (pl l (i - 1)) = true) →
    ∃ b : Bool, Ev (fun k => spec_isGood.l0 k l l (l.length : Int) (i : Int)) b ∧ Ev (fun k => impl_ArePlates.l0 k l l (l.length : Int) (i : Int)) (b && decide (1 ≤ l.length ∧ l.length ≤ 60)) ∧
      (b = true ↔ (∀ j, i ≤ j → j < l.length → M.plateB (pn l j) (pl l j) = true) ∧ ∀ j, i ≤ j + 1 → j + 1 < l.length → prk l j < prk l (j + 1)) := by
  intro d
  induction d with
  | zero =>
    intro i hi hd hp
    refine ⟨true, M.Ev_succ (M.Ev_some fun k => ?_), M.Ev_succ (M.Ev_some fun k => ?_), ?_⟩
    · simp only [spec_isGood.l0]; rw [if_neg (by omega)]
    · simp only [impl_ArePlates.l0]
      rw [if_neg (by omega), impl_within_eq]
      simp only [Option.bind_some, Bool.true_and, Option.some.injEq, decide_eq_decide]
      omega
    · simp only [true_iff]
      exact ⟨fun j a b => by omega, fun j a b => by omega⟩
  | succ d ih =>
    intro i hi hd hp
    have e : wrap64 ((i : Int) + 1) = ((i + 1 : Nat) : Int) := by rw [M.w64 (by omega) (by omega)]; omega
    have sp : spec_isPlate.f ((rd_T43 l (i : Int)).f0) ((rd_T43 l (i : Int)).f1) = some (M.plateB (pn l i) (pl l i)) := spec_isPlate_eq _ _
    have ip : impl_IsPlate.f ((rd_T43 l (i : Int)).f0) ((rd_T43 l (i : Int)).f1) = some (M.plateB (pn l i) (pl l i)) := impl_IsPlate_eq _ _
    by_cases hc : M.plateB (pn l i) (pl l i) = true
    · have sr : spec_isRank.f ((rd_T43 l (i : Int)).f0) ((rd_T43 l (i : Int)).f1) = some (prk l i) := spec_isRank_eq hc
      have ir : impl_rankOf.f ((rd_T43 l (i : Int)).f0) ((rd_T43 l (i : Int)).f1) = some (prk l i) := impl_rankOf_eq hc
      obtain ⟨b, h1, h2, h3⟩ := ih (i + 1) (by omega) (by omega) (fun _ => by simpa using hc)
      by_cases h0 : i = 0
      · subst h0
        refine ⟨b, M.Ev_succ ?_, M.Ev_succ ?_, ?_⟩
        · simp only [spec_isGood.l0, show ((0 : Nat) : Int) < (l.length : Int) by omega, show (0 : Int) ≤ ((0 : Nat) : Int) by omega, if_true, sp, hc, Option.bind_some, show ¬ (((0 : Nat) : Int) > 0) by omega, if_false, e]
          exact h1
        · simp only [impl_ArePlates.l0, show ((0 : Nat) : Int) < (l.length : Int) by omega, show (0 : Int) ≤ ((0 : Nat) : Int) by omega, if_true, ip, hc, Option.bind_some, show ¬ (((0 : Nat) : Int) > 0) by omega, if_false, e]
          exact h2
        · rw [h3]
          constructor
          · rintro ⟨x, y⟩
            refine ⟨fun j a b => ?_, fun j a b => y j (by omega) b⟩
            by_cases q : j = 0
            · rw [q]; exact hc
            · exact x j (by omega) b
          · rintro ⟨x, y⟩
            exact ⟨fun j a b => x j (by omega) b, fun j a b => y j (by omega) b⟩
      · have hq := hp (by omega)
        have em : wrap64 ((i : Int) - 1) = ((i - 1 : Nat) : Int) := by rw [M.w64 (by omega) (by omega)]; omega
        have sm : spec_isRank.f ((rd_T43 l ((i - 1 : Nat) : Int)).f0) ((rd_T43 l ((i - 1 : Nat) : Int)).f1) = some (prk l (i - 1)) := spec_isRank_eq hq
        have im : impl_rankOf.f ((rd_T43 l ((i - 1 : Nat) : Int)).f0) ((rd_T43 l ((i - 1 : Nat) : Int)).f1) = some (prk l (i - 1)) := impl_rankOf_eq hq
        have ei : i - 1 + 1 = i := by omega
        by_cases hr : prk l (i - 1) < prk l i
        · refine ⟨b, M.Ev_succ ?_, M.Ev_succ ?_, ?_⟩
          · simp only [spec_isGood.l0, show (i : Int) < (l.length : Int) by omega, show (0 : Int) ≤ (i : Int) by omega, if_true, sp, hc, Option.bind_some, show ((i : Int) > 0) by omega, e, em, show (0 : Int) ≤ ((i - 1 : Nat) : Int) by omega, show ((i - 1 : Nat) : Int) < (l.length : Int) by omega, sm, sr, show ¬ (prk l (i - 1) ≥ prk l i) by omega, if_false]
            exact h1
          · simp only [impl_ArePlates.l0, show (i : Int) < (l.length : Int) by omega, show (0 : Int) ≤ (i : Int) by omega, if_true, ip, hc, Option.bind_some, show ((i : Int) > 0) by omega, e, em, show (0 : Int) ≤ ((i - 1 : Nat) : Int) by omega, show ((i - 1 : Nat) : Int) < (l.length : Int) by omega, im, ir, show ¬ (prk l (i - 1) ≥ prk l i) by omega, if_false]
            exact h2
          · rw [h3]
            constructor
            · rintro ⟨x, y⟩
              refine ⟨fun j a b => ?_, fun j a b => ?_⟩
              · by_cases q : j = i
                · rw [q]; exact hc
                · exact x j (by omega) b
              · by_cases q : j + 1 = i
                · have : j = i - 1 := by omega
                  rw [this, ei]; exact hr
                · exact y j (by omega) b
            · rintro ⟨x, y⟩
              exact ⟨fun j a b => x j (by omega) b, fun j a b => y j (by omega) b⟩
        · refine ⟨false, M.Ev_succ (M.Ev_some fun k => ?_), M.Ev_succ (M.Ev_some fun k => ?_), ?_⟩
          · simp only [spec_isGood.l0, show (i : Int) < (l.length : Int) by omega, show (0 : Int) ≤ (i : Int) by omega, if_true, sp, hc, Option.bind_some, show ((i : Int) > 0) by omega, e, em, show (0 : Int) ≤ ((i - 1 : Nat) : Int) by omega, show ((i - 1 : Nat) : Int) < (l.length : Int) by omega, sm, sr, show (prk l (i - 1) ≥ prk l i) by omega]
          · simp only [impl_ArePlates.l0, show (i : Int) < (l.length : Int) by omega, show (0 : Int) ≤ (i : Int) by omega, if_true, ip, hc, Option.bind_some, show ((i : Int) > 0) by omega, e, em, show (0 : Int) ≤ ((i - 1 : Nat) : Int) by omega, show ((i - 1 : Nat) : Int) < (l.length : Int) by omega, im, ir, show (prk l (i - 1) ≥ prk l i) by omega, Bool.false_and]
          · simp only [Bool.false_eq_true, false_iff]
            rintro ⟨x, y⟩
            have := y (i - 1) (by omega) (by omega)
            rw [ei] at this
            exact hr this
    · refine ⟨false, M.Ev_succ (M.Ev_some fun k => ?_), M.Ev_succ (M.Ev_some fun k => ?_), ?_⟩
      · simp only [spec_isGood.l0, show (i : Int) < (l.length : Int) by omega, show (0 : Int) ≤ (i : Int) by omega, if_true, sp, hc, Option.bind_some, Bool.false_eq_true, if_false]
      · simp only [impl_ArePlates.l0, show (i : Int) < (l.length : Int) by omega, show (0 : Int) ≤ (i : Int) by omega, if_true, ip, hc, Option.bind_some, Bool.false_eq_true, if_false, Bool.false_and]
      · simp only [Bool.false_eq_true, false_iff]
        rintro ⟨x, _⟩
        exact hc (x i (by omega) (by omega))
theorem good_both (l : List S43) (hl : l.length ≤ 9000000000000000000) : ∃ b : Bool, Ev (fun k => spec_isGood.f k l) b ∧ Ev (fun k => impl_ArePlates.f k l) b ∧ (b = true ↔ Good l) := by
  obtain ⟨b, h1, h2, h3⟩ := good_loops l hl l.length 0 (by omega) (by omega) (fun h => by omega)
  refine ⟨b && decide (1 ≤ l.length ∧ l.length ≤ 60), ?_, ?_, ?_⟩
  · unfold spec_isGood.f
    rw [spec_l1In_eq]
    simp only [Option.bind_some]
    by_cases c : 1 ≤ l.length ∧ l.length ≤ 60
    · have c' : (1 : Int) ≤ (l.length : Int) ∧ (l.length : Int) ≤ 60 := by omega
      simp only [c, c', and_self, decide_true, if_true, Bool.and_true]
      exact h1
    · have c' : ¬ ((1 : Int) ≤ (l.length : Int) ∧ (l.length : Int) ≤ 60) := by omega
      simp only [c, c', decide_false, Bool.and_false]
      exact M.Ev_some fun k => by simp
  · unfold impl_ArePlates.f; exact h2
  · unfold Good
    simp only [Bool.and_eq_true, decide_eq_true_eq, h3]
    constructor
    · rintro ⟨⟨x, y⟩, a, b⟩
      exact ⟨a, b, fun i h => x i (by omega) h, fun i h => y i (by omega) h⟩
    · rintro ⟨a, b, x, y⟩
      exact ⟨⟨fun i _ h => x i h, fun i _ h => y i h⟩, a, b⟩
theorem good_mono {l : List S43} (h : Good l) : ∀ (d i : Nat), i + 1 + d < l.length → prk l i < prk l (i + 1 + d) := by
  intro d
  induction d with
  | zero => intro i hi; exact h.2.2.2 i hi
  | succ d ih =>
    intro i hi
    have a := ih i (by omega)
    have b := h.2.2.2 (i + 1 + d) (by omega)
    have e : i + 1 + (d + 1) = i + 1 + d + 1 := by omega
    rw [e]
    omega
theorem good_lt {l : List S43} (h : Good l) {i j : Nat} (hij : i < j) (hj : j < l.length) : prk l i < prk l j := by
  have := good_mono h (j - i - 1) i (by omega)
  have e : i + 1 + (j - i - 1) = j := by omega
  rwa [e] at this
theorem isPlace_loop (l : List S43) (hg : Good l) (a b : Int) (hp : M.plateB a b = true) : ∀ (d i : Nat), i ≤ l.length → l.length - i = d → (∀ j, j < i → prk l j < M.rank a b) →
    ∃ m : Nat, i ≤ m ∧ m ≤ l.length ∧ (∀ j, j < m → prk l j < M.rank a b) ∧ (m < l.length → M.rank a b ≤ prk l m) ∧ Ev (fun k => spec_isPlace.l0 k l (i : Int) a b) ((m : Int), decide (m < l.length ∧ pn l m = a ∧ pl l m = b)) := by
  intro d
  induction d with
  | zero =>
    intro i hi hd hj
    have hil : ¬ i < l.length := by omega
    refine ⟨i, Nat.le_refl _, hi, hj, fun h => by omega, M.Ev_succ (M.Ev_some fun k => ?_)⟩
    simp only [spec_isPlace.l0]
    rw [if_neg (by omega), decide_eq_false (fun z => hil z.1)]
  | succ d ih =>
    intro i hi hd hj
    have hil : i < l.length := by omega
    have hc := hg.2.2.1 i hil
    have e : wrap64 ((i : Int) + 1) = ((i + 1 : Nat) : Int) := by
      have := hg.2.1
      rw [M.w64 (by omega) (by omega)]; omega
    have sr : spec_isRank.f ((rd_T43 l (i : Int)).f0) ((rd_T43 l (i : Int)).f1) = some (prk l i) := spec_isRank_eq hc
    by_cases hr : prk l i < M.rank a b
    · obtain ⟨m, h1, h2, h3, h4, h5⟩ := ih (i + 1) (by omega) (by omega) (fun j hj' => by
        by_cases q : j = i
        · rw [q]; exact hr
        · exact hj j (by omega))
      refine ⟨m, by omega, h2, h3, h4, M.Ev_succ ?_⟩
      simp only [spec_isPlace.l0, show (i : Int) < (l.length : Int) by omega, show (0 : Int) ≤ (i : Int) by omega, if_true, sr, spec_isRank_eq hp, Option.bind_some, hr, e]
      exact h5
    · refine ⟨i, Nat.le_refl _, hi, hj, fun _ => by omega, M.Ev_succ (M.Ev_some fun k => ?_)⟩
      simp only [spec_isPlace.l0, show (i : Int) < (l.length : Int) by omega, show (0 : Int) ≤ (i : Int) by omega, if_true, sr, spec_isRank_eq hp, Option.bind_some, hr, if_false, Option.some.injEq, Prod.mk.injEq, true_and]
      show (pn l i == a && (pl l i == b)) = decide (i < l.length ∧ pn l i = a ∧ pl l i = b)
      rw [Bool.eq_iff_iff]
      simp [hil]
theorem isPlace_ev (l : List S43) (hg : Good l) (a b : Int) (hp : M.plateB a b = true) :
    ∃ m : Nat, m ≤ l.length ∧ (∀ j, j < m → prk l j < M.rank a b) ∧ (m < l.length → M.rank a b ≤ prk l m) ∧ Ev (fun k => spec_isPlace.f k l a b) ((m : Int), decide (m < l.length ∧ pn l m = a ∧ pl l m = b)) := by
  obtain ⟨m, _, h2, h3, h4, h5⟩ := isPlace_loop l hg a b hp l.length 0 (by omega) (by omega) (fun j hj => by omega)
  exact ⟨m, h2, h3, h4, h5⟩
/-- A plate is in a list where it stands in its place, and only there. -/
theorem place_of {l : List S43} (hg : Good l) {a b : Int} {m : Nat} (h3 : ∀ j, j < m → prk l j < M.rank a b) (h4 : m < l.length → M.rank a b ≤ prk l m) {j : Nat} (hj : j < l.length) (e : pn l j = a ∧ pl l j = b) : j = m := by
  have er : prk l j = M.rank a b := by unfold prk; rw [e.1, e.2]
  by_cases c : j < m
  · have := h3 j c; omega
  · by_cases c2 : m < j
    · have := good_lt hg c2 hj
      have := h4 (by omega)
      omega
    · omega
theorem index_loop (l : List S43) (hl : l.length ≤ 1000000000000) (a b : Int) : ∀ (d i : Nat), i ≤ l.length → l.length - i = d → (∀ j, j < i → ¬ (pn l j = a ∧ pl l j = b)) →
    ∃ v : Int, Ev (fun k => impl_Plate.l0 k l (l.length : Int) (i : Int) a b) v ∧ ((v = -1 ∧ ∀ j, j < l.length → ¬ (pn l j = a ∧ pl l j = b)) ∨ ∃ m : Nat, m < l.length ∧ v = m ∧ (pn l m = a ∧ pl l m = b) ∧ ∀ j, j < m → ¬ (pn l j = a ∧ pl l j = b)) := by
  intro d
  induction d with
  | zero =>
    intro i hi hd hj
    refine ⟨-1, M.Ev_succ (M.Ev_some fun k => ?_), .inl ⟨rfl, fun j h => hj j (by omega)⟩⟩
    simp only [impl_Plate.l0]
    rw [if_neg (by omega)]
  | succ d ih =>
    intro i hi hd hj
    have e : wrap64 ((i : Int) + 1) = ((i + 1 : Nat) : Int) := by rw [M.w64 (by omega) (by omega)]; omega
    have et : (a == ((rd_T43 l (i : Int)).f0) && (b == ((rd_T43 l (i : Int)).f1))) = decide (pn l i = a ∧ pl l i = b) := by
      show (a == pn l i && (b == pl l i)) = _
      rw [Bool.eq_iff_iff]
      simp only [Bool.and_eq_true, beq_iff_eq, decide_eq_true_eq]
      exact ⟨fun z => ⟨z.1.symm, z.2.symm⟩, fun z => ⟨z.1.symm, z.2.symm⟩⟩
    by_cases c : pn l i = a ∧ pl l i = b
    · refine ⟨i, M.Ev_succ (M.Ev_some fun k => ?_), .inr ⟨i, by omega, rfl, c, hj⟩⟩
      simp only [impl_Plate.l0, show (i : Int) < (l.length : Int) by omega, show (0 : Int) ≤ (i : Int) by omega, if_true, et, decide_eq_true c]
    · obtain ⟨v, h1, h2⟩ := ih (i + 1) (by omega) (by omega) (fun j hj' => by
        by_cases q : j = i
        · rw [q]; exact c
        · exact hj j (by omega))
      refine ⟨v, M.Ev_succ ?_, h2⟩
      simp only [impl_Plate.l0, show (i : Int) < (l.length : Int) by omega, show (0 : Int) ≤ (i : Int) by omega, if_true, et, decide_eq_false c, Bool.false_eq_true, if_false, e]
      exact h1
theorem index_ev (l : List S43) (hl : l.length ≤ 1000000000000) (a b : Int) :
    ∃ v : Int, Ev (fun k => impl_Plate.f k l a b) v ∧ ((v = -1 ∧ ∀ j, j < l.length → ¬ (pn l j = a ∧ pl l j = b)) ∨ ∃ m : Nat, m < l.length ∧ v = m ∧ (pn l m = a ∧ pl l m = b) ∧ ∀ j, j < m → ¬ (pn l j = a ∧ pl l j = b)) :=
  index_loop l hl a b l.length 0 (by omega) (by omega) (fun j hj => by omega)
/-- PlaceOfPlate: both tell the index, and it is where the plate stands. -/
theorem PlaceOfPlate_ev (l : List S43) (hl : l.length ≤ 1000000000000) (a b : Int) : ∃ r : Int × Bool, Ev (fun k => spec_PlaceOfPlate.f k l a b) r ∧ Ev (fun k => impl_PlaceOfPlate.f k l a b) r ∧
    ((r = (0, false) ∧ (Good l → ∀ j, j < l.length → ¬ (pn l j = a ∧ pl l j = b))) ∨ (Good l ∧ ∃ m : Nat, m < l.length ∧ r = ((m : Int), true) ∧ pn l m = a ∧ pl l m = b)) := by
  obtain ⟨g, h1, h2, h3⟩ := good_both l (by omega)
  obtain ⟨v, hv, hv2⟩ := index_ev l hl a b
  unfold spec_PlaceOfPlate.f impl_PlaceOfPlate.f
  cases g with
  | false =>
    have hg : ¬ Good l := fun z => by simpa using h3.2 z
    exact ⟨(0, false), Ev.bind h1 (M.Ev_succ (M.Ev_some fun k => by simp [spec_PlaceOfPlate.j0])), Ev.bind hv (Ev.bind h2 (M.Ev_some fun k => rfl)), .inl ⟨rfl, fun z => absurd z hg⟩⟩
  | true =>
    have hg : Good l := h3.1 rfl
    by_cases hp : M.plateB a b = true
    · obtain ⟨m, m1, m2, m3, m4⟩ := isPlace_ev l hg a b hp
      by_cases c : m < l.length ∧ pn l m = a ∧ pl l m = b
      · have ev : v = (m : Int) := by
          rcases hv2 with ⟨_, hn⟩ | ⟨m', a1, a2, a3, a4⟩
          · exact absurd c.2 (hn m c.1)
          · rw [a2, place_of hg m2 m3 a1 a3]
        refine ⟨((m : Int), true), Ev.bind h1 ?_, Ev.bind hv (Ev.bind h2 (M.Ev_some fun k => ?_)), .inr ⟨hg, m, c.1, rfl, c.2.1, c.2.2⟩⟩
        · simp only [if_true, spec_isPlate_eq, hp, Option.bind_some, Bool.not_true]
          refine M.Ev_succ ?_
          simp only [spec_PlaceOfPlate.j0, Bool.false_eq_true, if_false]
          rw [decide_eq_true c] at m4
          exact Ev.bind m4 (M.Ev_some fun k => rfl)
        · rw [if_pos rfl, ev, if_neg (by omega)]
      · have hno : ∀ j, j < l.length → ¬ (pn l j = a ∧ pl l j = b) := fun j hj z => by
          have := place_of hg m2 m3 hj z
          subst this
          exact c ⟨hj, z⟩
        have ev : v = -1 := by
          rcases hv2 with ⟨a1, _⟩ | ⟨m', a1, a2, a3, a4⟩
          · exact a1
          · exact absurd a3 (hno m' a1)
        refine ⟨(0, false), Ev.bind h1 ?_, Ev.bind hv (Ev.bind h2 (M.Ev_some fun k => ?_)), .inl ⟨rfl, fun _ => hno⟩⟩
        · simp only [if_true, spec_isPlate_eq, hp, Option.bind_some, Bool.not_true]
          refine M.Ev_succ ?_
          simp only [spec_PlaceOfPlate.j0, Bool.false_eq_true, if_false]
          rw [decide_eq_false c] at m4
          exact Ev.bind m4 (M.Ev_some fun k => rfl)
        · rw [if_pos rfl, ev, if_pos (by omega)]
    · have hno : ∀ j, j < l.length → ¬ (pn l j = a ∧ pl l j = b) := fun j hj z => by
        have := hg.2.2.1 j hj
        rw [z.1, z.2] at this
        exact hp this
      have ev : v = -1 := by
        rcases hv2 with ⟨a1, _⟩ | ⟨m', a1, a2, a3, a4⟩
        · exact a1
        · exact absurd a3 (hno m' a1)
      refine ⟨(0, false), Ev.bind h1 ?_, Ev.bind hv (Ev.bind h2 (M.Ev_some fun k => ?_)), .inl ⟨rfl, fun _ => hno⟩⟩
      · simp only [if_true, spec_isPlate_eq, Option.bind_some]
        refine M.Ev_succ (M.Ev_some fun k => ?_)
        simp [spec_PlaceOfPlate.j0, hp]
      · rw [if_pos rfl, ev, if_pos (by omega)]
theorem toPlate_eq (n l : Int) : laws_toPlate.f n l = some (n, l) := rfl
def conv (l : List S41) : List S43 := l.map fun p => ⟨p.f0, p.f1⟩
theorem conv_length (l : List S41) : (conv l).length = l.length := by simp [conv]
theorem toPlateS_loop (l : List S41) (hl : l.length ≤ 1000000000000) : ∀ (d i : Nat) (acc : List S43), i ≤ l.length → l.length - i = d → acc.length = l.length → acc.take i = (conv l).take i →
    Ev (fun k => laws_toPlateS.l0 k l acc (i : Int)) (conv l) := by
  intro d
  induction d with
  | zero =>
    intro i acc hi hd ha ht
    obtain rfl : i = l.length := by omega
    refine M.Ev_succ (M.Ev_some fun k => ?_)
    simp only [laws_toPlateS.l0]
    rw [if_neg (by omega)]
    rw [List.take_of_length_le (by omega), List.take_of_length_le (by rw [conv_length]; omega)] at ht
    rw [ht]
  | succ d ih =>
    intro i acc hi hd ha ht
    have hil : i < l.length := by omega
    have e : wrap64 ((i : Int) + 1) = ((i + 1 : Nat) : Int) := by rw [M.w64 (by omega) (by omega)]; omega
    refine M.Ev_succ ?_
    simp only [laws_toPlateS.l0, show (i : Int) < (l.length : Int) by omega, show (0 : Int) ≤ (i : Int) by omega, if_true, toPlate_eq, Option.bind_some, show (i : Int) < (acc.length : Int) by omega, e, Int.toNat_natCast]
    refine ih (i + 1) _ (by omega) (by omega) (by rw [List.length_set]; exact ha) ?_
    have hr : rd_T41 l (i : Int) = l[i] := by
      unfold rd_T41
      rw [Int.toNat_natCast, List.getD_eq_getElem?_getD, List.getElem?_eq_getElem hil]; rfl
    rw [List.take_succ_eq_append_getElem (by rw [List.length_set]; omega), List.take_succ_eq_append_getElem (by rw [conv_length]; omega), List.take_set, List.set_eq_of_length_le (by simp; omega), ht]
    congr 1
    simp [conv, hr]
theorem toPlateS_ev (l : List S41) (hl : l.length ≤ 1000000000000) : Ev (fun k => laws_toPlateS.f k l) (conv l) := by
  unfold laws_toPlateS.f
  simp only [show (0 : Int) ≤ (l.length : Int) by omega, if_true, Int.toNat_natCast, show l.length ≤ 17592186044416 by omega]
  exact toPlateS_loop l hl l.length 0 _ (by omega) (by omega) (by simp) (by simp)
theorem eqPlate_refl (n l : Int) : laws_eqPlate.f n l n l = some true := by
  unfold laws_eqPlate.f; rw [if_pos rfl, if_pos rfl]
theorem eqPlateS_loop (l : List S43) (hl : l.length ≤ 1000000000000) : ∀ (d i : Nat), i ≤ l.length → l.length - i = d → Ev (fun k => laws_eqPlateS.l0 k l l (i : Int)) true := by
  intro d
  induction d with
  | zero =>
    intro i hi hd
    refine M.Ev_succ (M.Ev_some fun k => ?_)
    simp only [laws_eqPlateS.l0]
    rw [if_neg (by omega)]
  | succ d ih =>
    intro i hi hd
    have e : wrap64 ((i : Int) + 1) = ((i + 1 : Nat) : Int) := by rw [M.w64 (by omega) (by omega)]; omega
    refine M.Ev_succ ?_
    simp only [laws_eqPlateS.l0, show (i : Int) < (l.length : Int) by omega, show (0 : Int) ≤ (i : Int) by omega, if_true, eqPlate_refl, Option.bind_some, e]
    exact ih (i + 1) (by omega) (by omega)
theorem eqPlateS_ev (l : List S43) (hl : l.length ≤ 1000000000000) : Ev (fun k => laws_eqPlateS.f k l l) true := by
  unfold laws_eqPlateS.f
  simp only [if_true]
  exact eqPlateS_loop l hl l.length 0 (by omega) (by omega)
theorem sz_big (l : List S41) (hl : l.length * 16 ≤ 140737488351232) (c : 1048576 < l.length) : laws_szPlateS.f l 1048576 = some (-1) := by
  unfold laws_szPlateS.f
  rw [M.w64 (x := 1048576 - (l.length : Int)) (by omega) (by omega), if_pos (by omega)]
theorem sz_small (l : List S41) (c : ¬ 1048576 < l.length) : laws_szPlateS.f l 1048576 = some (1048576 - (l.length : Int)) := by
  unfold laws_szPlateS.f
  rw [M.w64 (x := 1048576 - (l.length : Int)) (by omega) (by omega), if_neg (by omega)]
def laws_FnExactPlaceOfPlate.Pure : Prop := ∀ (l0 : List S41) (a1_0 a1_1 : Int), (∀ x ∈ l0, (Lit.int .i64 x.f0).wf = true ∧ (Lit.int .i64 x.f1).wf = true) → l0.length * 16 ≤ 140737488351232 → (Lit.int .i64 a1_0).wf = true → (Lit.int .i64 a1_1).wf = true → ∃ k, laws_FnExactPlaceOfPlate.f k l0 a1_0 a1_1 = some true
theorem FnExactPlaceOfPlate : laws_FnExactPlaceOfPlate.Pure := by
  intro l a b _ hl _ _
  refine Ev.rounds (r := true) ?_
  unfold laws_FnExactPlaceOfPlate.f
  by_cases c : 1048576 < l.length
  · simp only [sz_big l hl c, Option.bind_some]; exact M.Ev_some fun k => rfl
  · simp only [sz_small l c, Option.bind_some, show ¬ ((1048576 : Int) - (l.length : Int) < 0) by omega, if_false, toPlate_eq]
    have hc : (conv l).length ≤ 1000000000000 := by rw [conv_length]; omega
    obtain ⟨r, h1, h2, _⟩ := PlaceOfPlate_ev (conv l) hc a b
    have ht := toPlateS_ev l (by omega)
    refine Ev.bind ht (Ev.bind h1 (Ev.bind ht (Ev.bind h2 ?_)))
    simp only [if_true, bne_self_eq_false]
    refine M.Ev_succ ?_
    simp only [laws_FnExactPlaceOfPlate.j0, Bool.false_eq_true, if_false]
    exact Ev.bind ht (Ev.bind (eqPlateS_ev (conv l) hc) (M.Ev_some fun k => by simp))

end Go.Proofs.Ytgjgbdpfjohaaaa.Pure
