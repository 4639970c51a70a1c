/- FnPlatesOrder holds for all bytes: whatever is drawn, the program and the reference answer alike, plates come in their order, middles are in the middle, and texts are read back. -/
import Derived.Test.YtbnhfipcjbnknaaGreatDoorM
import Derived.Test.YtbnhfipcjbnknaaGreatDoorGFnPlatesOrder
import Derived.Laws.Bits64b
import Derived.Lib.Join
import Derived.Lib.SplitLaws
namespace Go.Proofs.YtbnhfipcjbnknaaGreatDoor.Pure
open Go.RowKit Go.Proofs.YtbnhfipcjbnknaaGreatDoor.PFnPlatesOrder Go.Proofs.YtbnhfipcjbnknaaGreatDoorW.PrintWords Go.Proofs.YtbnhfipcjbnknaaGreatDoorW.PrintLast Go.Proofs.YtbnhfipcjbnknaaGreatDoorW.PrintMore
set_option linter.unusedVariables false
set_option linter.unusedSimpArgs false
theorem spec_l1In_eq (a b c : Int) : spec_l1In.f a b c = some (decide (b ≤ a ∧ a ≤ c)) := by
  unfold spec_l1In.f
  by_cases h : a ≥ b
  · rw [if_pos h]; simp [show b ≤ a from h]
  · rw [if_neg h]; simp [show ¬ b ≤ a from h]
theorem impl_within_eq (a b c : Int) : impl_within.f a b c = some (decide (b ≤ a ∧ a ≤ c)) := by
  unfold impl_within.f
  by_cases h : a ≥ b
  · rw [if_pos h]; simp [show b ≤ a from h]
  · rw [if_neg h]; simp [show ¬ b ≤ a from h]
theorem spec_isPlate_eq (n l : Int) : spec_isPlate.f n l = some (M.plateB n l) := by
  unfold spec_isPlate.f M.plateB
  simp only [spec_l1In_eq, Option.bind_some]
  by_cases h : 1 ≤ n ∧ n ≤ 9999 <;> simp [h]
theorem impl_IsPlate_eq (n l : Int) : impl_IsPlate.f n l = some (M.plateB n l) := by
  unfold impl_IsPlate.f M.plateB
  simp only [impl_within_eq, Option.bind_some]
  by_cases h : 1 ≤ n ∧ n ≤ 9999 <;> simp [h]
theorem spec_isRank_eq {n l : Int} (h : M.plateB n l = true) : spec_isRank.f n l = some (M.rank n l) := by
  have h' := M.plateB_iff.1 h
  unfold spec_isRank.f M.rank
  rw [M.w64 (x := 27 * n) (by omega) (by omega), M.w64 (by omega) (by omega), Int.mul_comm]
theorem impl_rankOf_eq {n l : Int} (h : M.plateB n l = true) : impl_rankOf.f n l = some (M.rank n l) := by
  have h' := M.plateB_iff.1 h
  unfold impl_rankOf.f M.rank
  rw [M.w64 (x := n * 27) (by omega) (by omega), M.w64 (by omega) (by omega)]
def pn (l : List S25) (i : Nat) : Int := (rd_T25 l (i : Int)).f0
def pl (l : List S25) (i : Nat) : Int := (rd_T25 l (i : Int)).f1
def prk (l : List S25) (i : Nat) : Int := M.rank (pn l i) (pl l i)
/-- Plates: 1 to 60 of them, each a plate, one behind the other. -/
def Good (l : List S25) : Prop := 1 ≤ l.length ∧ l.length ≤ 60 ∧ (∀ i, i < l.length → M.plateB (pn l i) (pl l i) = true) ∧ ∀ i, i + 1 < l.length → prk l i < prk l (i + 1)
noncomputable instance goodDec (l : List S25) : Decidable (Good l) := Classical.propDecidable _
theorem good_loops (l : List S25) (hl : l.length ≤ 9000000000000000000) : ∀ (d i : Nat), i ≤ l.length → l.length - i = d → (0 < i → M.plateB (pn l (i - 1)) (pl l (i - 1)) = true) →
    ∃ b : Bool, Ev (fun k => spec_isGood.l0 k l l (l.length : Int) (i : Int)) b ∧ Ev (fun k => impl_ArePlates.l0 k l l (l.length : Int) (i : Int)) (b && decide (1 ≤ l.length ∧ l.length ≤ 60)) ∧
      (b = true ↔ (∀ j, i ≤ j → j < l.length → M.plateB (pn l j) (pl l j) = true) ∧ ∀ j, i ≤ j + 1 → j + 1 < l.length → prk l j < prk l (j + 1)) := by
  intro d
  induction d with
  | zero =>
    intro i hi hd hp
    refine ⟨true, M.Ev_succ (M.Ev_some fun k => ?_), M.Ev_succ (M.Ev_some fun k => ?_), ?_⟩
    · simp only [spec_isGood.l0]; rw [if_neg (by omega)]
    · simp only [impl_ArePlates.l0]
      rw [if_neg (by omega), impl_within_eq]
      simp only [Option.bind_some, Bool.true_and, Option.some.injEq, decide_eq_decide]
      omega
    · simp only [true_iff]
      exact ⟨fun j a b => by omega, fun j a b => by omega⟩
  | succ d ih =>
    intro i hi hd hp
    have e : wrap64 ((i : Int) + 1) = ((i + 1 : Nat) : Int) := by rw [M.w64 (by omega) (by omega)]; omega
    have sp : spec_isPlate.f ((rd_T25 l (i : Int)).f0) ((rd_T25 l (i : Int)).f1) = some (M.plateB (pn l i) (pl l i)) := spec_isPlate_eq _ _
    have ip : impl_IsPlate.f ((rd_T25 l (i : Int)).f0) ((rd_T25 l (i : Int)).f1) = some (M.plateB (pn l i) (pl l i)) := impl_IsPlate_eq _ _
    by_cases hc : M.plateB (pn l i) (pl l i) = true
    · have sr : spec_isRank.f ((rd_T25 l (i : Int)).f0) ((rd_T25 l (i : Int)).f1) = some (prk l i) := spec_isRank_eq hc
      have ir : impl_rankOf.f ((rd_T25 l (i : Int)).f0) ((rd_T25 l (i : Int)).f1) = some (prk l i) := impl_rankOf_eq hc
      obtain ⟨b, h1, h2, h3⟩ := ih (i + 1) (by omega) (by omega) (fun _ => by simpa using hc)
      by_cases h0 : i = 0
      · subst h0
        refine ⟨b, M.Ev_succ ?_, M.Ev_succ ?_, ?_⟩
        · simp only [spec_isGood.l0, show ((0 : Nat) : Int) < (l.length : Int) by omega, show (0 : Int) ≤ ((0 : Nat) : Int) by omega, if_true, sp, hc, Option.bind_some, show ¬ (((0 : Nat) : Int) > 0) by omega, if_false, e]
          exact h1
        · simp only [impl_ArePlates.l0, show ((0 : Nat) : Int) < (l.length : Int) by omega, show (0 : Int) ≤ ((0 : Nat) : Int) by omega, if_true, ip, hc, Option.bind_some, show ¬ (((0 : Nat) : Int) > 0) by omega, if_false, e]
          exact h2
        · rw [h3]
          constructor
          · rintro ⟨x, y⟩
            refine ⟨fun j a b => ?_, fun j a b => y j (by omega) b⟩
            by_cases q : j = 0
            · rw [q]; exact hc
            · exact x j (by omega) b
          · rintro ⟨x, y⟩
            exact ⟨fun j a b => x j (by omega) b, fun j a b => y j (by omega) b⟩
      · have hq := hp (by omega)
        have em : wrap64 ((i : Int) - 1) = ((i - 1 : Nat) : Int) := by rw [M.w64 (by omega) (by omega)]; omega
        have sm : spec_isRank.f ((rd_T25 l ((i - 1 : Nat) : Int)).f0) ((rd_T25 l ((i - 1 : Nat) : Int)).f1) = some (prk l (i - 1)) := spec_isRank_eq hq
        have im : impl_rankOf.f ((rd_T25 l ((i - 1 : Nat) : Int)).f0) ((rd_T25 l ((i - 1 : Nat) : Int)).f1) = some (prk l (i - 1)) := impl_rankOf_eq hq
        have ei : i - 1 + 1 = i := by omega
        by_cases hr : prk l (i - 1) < prk l i
        · refine ⟨b, M.Ev_succ ?_, M.Ev_succ ?_, ?_⟩
          · simp only [spec_isGood.l0, show (i : Int) < (l.length : Int) by omega, show (0 : Int) ≤ (i : Int) by omega, if_true, sp, hc, Option.bind_some, show ((i : Int) > 0) by omega, e, em, show (0 : Int) ≤ ((i - 1 : Nat) : Int) by omega, show ((i - 1 : Nat) : Int) < (l.length : Int) by omega, sm, sr, show ¬ (prk l (i - 1) ≥ prk l i) by omega, if_false]
            exact h1
          · simp only [impl_ArePlates.l0, show (i : Int) < (l.length : Int) by omega, show (0 : Int) ≤ (i : Int) by omega, if_true, ip, hc, Option.bind_some, show ((i : Int) > 0) by omega, e, em, show (0 : Int) ≤ ((i - 1 : Nat) : Int) by omega, show ((i - 1 : Nat) : Int) < (l.length : Int) by omega, im, ir, show ¬ (prk l (i - 1) ≥ prk l i) by omega, if_false]
            exact h2
          · rw [h3]
            constructor
            · rintro ⟨x, y⟩
              refine ⟨fun j a b => ?_, fun j a b => ?_⟩
              · by_cases q : j = i
                · rw [q]; exact hc
                · exact x j (by omega) b
              · by_cases q : j + 1 = i
                · have : j = i - 1 := by omega
                  rw [this, ei]; exact hr
                · exact y j (by omega) b
            · rintro ⟨x, y⟩
              exact ⟨fun j a b => x j (by omega) b, fun j a b => y j (by omega) b⟩
        · refine ⟨false, M.Ev_succ (M.Ev_some fun k => ?_), M.Ev_succ (M.Ev_some fun k => ?_), ?_⟩
          · simp only [spec_isGood.l0, show (i : Int) < (l.length : Int) by omega, show (0 : Int) ≤ (i : Int) by omega, if_true, sp, hc, Option.bind_some, show ((i : Int) > 0) by omega, e, em, show (0 : Int) ≤ ((i - 1 : Nat) : Int) by omega, show ((i - 1 : Nat) : Int) < (l.length : Int) by omega, sm, sr, show (prk l (i - 1) ≥ prk l i) by omega]
          · simp only [impl_ArePlates.l0, show (i : Int) < (l.length : Int) by omega, show (0 : Int) ≤ (i : Int) by omega, if_true, ip, hc, Option.bind_some, show ((i : Int) > 0) by omega, e, em, show (0 : Int) ≤ ((i - 1 : Nat) : Int) by omega, show ((i - 1 : Nat) : Int) < (l.length : Int) by omega, im, ir, show (prk l (i - 1) ≥ prk l i) by omega, Bool.false_and]
          · simp only [Bool.false_eq_true, false_iff]
            rintro ⟨x, y⟩
            have := y (i - 1) (by omega) (by omega)
            rw [ei] at this
            exact hr this
    · refine ⟨false, M.Ev_succ (M.Ev_some fun k => ?_), M.Ev_succ (M.Ev_some fun k => ?_), ?_⟩
      · simp only [spec_isGood.l0, show (i : Int) < (l.length : Int) by omega, show (0 : Int) ≤ (i : Int) by omega, if_true, sp, hc, Option.bind_some, Bool.false_eq_true, if_false]
      · simp only [impl_ArePlates.l0, show (i : Int) < (l.length : Int) by omega, show (0 : Int) ≤ (i : Int) by omega, if_true, ip, hc, Option.bind_some, Bool.false_eq_true, if_false, Bool.false_and]
      · simp only [Bool.false_eq_true, false_iff]
        rintro ⟨x, _⟩
        exact hc (x i (by omega) (by omega))
theorem good_both (l : List S25) (hl : l.length ≤ 9000000000000000000) : ∃ b : Bool, Ev (fun k => spec_isGood.f k l) b ∧ Ev (fun k => impl_ArePlates.f k l) b ∧ (b = true ↔ Good l) := by
  obtain ⟨b, h1, h2, h3⟩ := good_loops l hl l.length 0 (by omega) (by omega) (fun h => by omega)
  refine ⟨b && decide (1 ≤ l.length ∧ l.length ≤ 60), ?_, ?_, ?_⟩
  · unfold spec_isGood.f
    rw [spec_l1In_eq]
    simp only [Option.bind_some]
    by_cases c : 1 ≤ l.length ∧ l.length ≤ 60
    · have c' : (1 : Int) ≤ (l.length : Int) ∧ (l.length : Int) ≤ 60 := by omega
      simp only [c, c', and_self, decide_true, if_true, Bool.and_true]
      exact h1
    · have c' : ¬ ((1 : Int) ≤ (l.length : Int) ∧ (l.length : Int) ≤ 60) := by omega
      simp only [c, c', decide_false, Bool.and_false]
      exact M.Ev_some fun k => by simp
  · unfold impl_ArePlates.f; exact h2
  · unfold Good
    simp only [Bool.and_eq_true, decide_eq_true_eq, h3]
    constructor
    · rintro ⟨⟨x, y⟩, a, b⟩
      exact ⟨a, b, fun i h => x i (by omega) h, fun i h => y i (by omega) h⟩
    · rintro ⟨a, b, x, y⟩
      exact ⟨⟨fun i _ h => x i h, fun i _ h => y i h⟩, a, b⟩
theorem good_mono {l : List S25} (h : Good l) : ∀ (d i : Nat), i + 1 + d < l.length → prk l i < prk l (i + 1 + d) := by
  intro d
  induction d with
  | zero => intro i hi; exact h.2.2.2 i hi
  | succ d ih =>
    intro i hi
    have a := ih i (by omega)
    have b := h.2.2.2 (i + 1 + d) (by omega)
    have e : i + 1 + (d + 1) = i + 1 + d + 1 := by omega
    rw [e]
    omega
theorem good_lt {l : List S25} (h : Good l) {i j : Nat} (hij : i < j) (hj : j < l.length) : prk l i < prk l j := by
  have := good_mono h (j - i - 1) i (by omega)
  have e : i + 1 + (j - i - 1) = j := by omega
  rwa [e] at this
theorem isPlace_loop (l : List S25) (hg : Good l) (a b : Int) (hp : M.plateB a b = true) : ∀ (d i : Nat), i ≤ l.length → l.length - i = d → (∀ j, j < i → prk l j < M.rank a b) →
    ∃ m : Nat, i ≤ m ∧ m ≤ l.length ∧ (∀ j, j < m → prk l j < M.rank a b) ∧ (m < l.length → M.rank a b ≤ prk l m) ∧ Ev (fun k => spec_isPlace.l0 k l (i : Int) a b) ((m : Int), decide (m < l.length ∧ pn l m = a ∧ pl l m = b)) := by
  intro d
  induction d with
  | zero =>
    intro i hi hd hj
    have hil : ¬ i < l.length := by omega
    refine ⟨i, Nat.le_refl _, hi, hj, fun h => by omega, M.Ev_succ (M.Ev_some fun k => ?_)⟩
    simp only [spec_isPlace.l0]
    rw [if_neg (by omega), decide_eq_false (fun z => hil z.1)]
  | succ d ih =>
    intro i hi hd hj
    have hil : i < l.length := by omega
    have hc := hg.2.2.1 i hil
    have e : wrap64 ((i : Int) + 1) = ((i + 1 : Nat) : Int) := by
      have := hg.2.1
      rw [M.w64 (by omega) (by omega)]; omega
    have sr : spec_isRank.f ((rd_T25 l (i : Int)).f0) ((rd_T25 l (i : Int)).f1) = some (prk l i) := spec_isRank_eq hc
    by_cases hr : prk l i < M.rank a b
    · obtain ⟨m, h1, h2, h3, h4, h5⟩ := ih (i + 1) (by omega) (by omega) (fun j hj' => by
        by_cases q : j = i
        · rw [q]; exact hr
        · exact hj j (by omega))
      refine ⟨m, by omega, h2, h3, h4, M.Ev_succ ?_⟩
      simp only [spec_isPlace.l0, show (i : Int) < (l.length : Int) by omega, show (0 : Int) ≤ (i : Int) by omega, if_true, sr, spec_isRank_eq hp, Option.bind_some, hr, e]
      exact h5
    · refine ⟨i, Nat.le_refl _, hi, hj, fun _ => by omega, M.Ev_succ (M.Ev_some fun k => ?_)⟩
      simp only [spec_isPlace.l0, show (i : Int) < (l.length : Int) by omega, show (0 : Int) ≤ (i : Int) by omega, if_true, sr, spec_isRank_eq hp, Option.bind_some, hr, if_false, Option.some.injEq, Prod.mk.injEq, true_and]
      show (pn l i == a && (pl l i == b)) = decide (i < l.length ∧ pn l i = a ∧ pl l i = b)
      rw [Bool.eq_iff_iff]
      simp [hil]
theorem isPlace_ev (l : List S25) (hg : Good l) (a b : Int) (hp : M.plateB a b = true) :
    ∃ m : Nat, m ≤ l.length ∧ (∀ j, j < m → prk l j < M.rank a b) ∧ (m < l.length → M.rank a b ≤ prk l m) ∧ Ev (fun k => spec_isPlace.f k l a b) ((m : Int), decide (m < l.length ∧ pn l m = a ∧ pl l m = b)) := by
  obtain ⟨m, _, h2, h3, h4, h5⟩ := isPlace_loop l hg a b hp l.length 0 (by omega) (by omega) (fun j hj => by omega)
  exact ⟨m, h2, h3, h4, h5⟩
theorem rdT_get {l : List S25} {i : Nat} (h : i < l.length) : rd_T25 l (i : Int) = l[i] := by
  unfold rd_T25
  rw [Int.toNat_natCast, List.getD_eq_getElem?_getD, List.getElem?_eq_getElem h]; rfl
/-- The elements of a list are plates. -/
def Plates (l : List S25) : Prop := ∀ x ∈ l, M.plateB x.f0 x.f1 = true
/-- They are strictly one behind the other. -/
def Rising (l : List S25) : Prop := l.Pairwise (fun x y => M.rank x.f0 x.f1 < M.rank y.f0 y.f1)
theorem prk_get {l : List S25} {j : Nat} (hj : j < l.length) : prk l j = M.rank l[j].f0 l[j].f1 := by
  unfold prk pn pl
  rw [rdT_get hj]
theorem good_iff (l : List S25) : Good l ↔ 1 ≤ l.length ∧ l.length ≤ 60 ∧ Plates l ∧ Rising l := by
  constructor
  · intro h
    refine ⟨h.1, h.2.1, fun x hx => ?_, ?_⟩
    · obtain ⟨j, hj, rfl⟩ := List.getElem_of_mem hx
      have := h.2.2.1 j hj
      unfold pn pl at this
      rwa [rdT_get hj] at this
    · unfold Rising
      rw [List.pairwise_iff_getElem]
      intro i j hi hj hij
      rw [← prk_get hi, ← prk_get hj]
      exact good_lt h hij hj
  · rintro ⟨h1, h2, h3, h4⟩
    refine ⟨h1, h2, fun i hi => ?_, fun i hi => ?_⟩
    · unfold pn pl
      rw [rdT_get hi]
      exact h3 _ (List.getElem_mem hi)
    · unfold Rising at h4
      rw [List.pairwise_iff_getElem] at h4
      rw [prk_get (by omega), prk_get hi]
      exact h4 i (i + 1) (by omega) hi (by omega)
theorem take_of {l : List S25} {m : Nat} {x : S25} (h : x ∈ l.take m) : ∃ j, j < m ∧ ∃ hj : j < l.length, l[j] = x := by
  obtain ⟨j, hj, e⟩ := List.getElem_of_mem h
  rw [List.length_take] at hj
  exact ⟨j, by omega, by omega, by rw [← e]; simp⟩
theorem drop_of {l : List S25} {m : Nat} {x : S25} (h : x ∈ l.drop m) : ∃ j, m ≤ j ∧ ∃ hj : j < l.length, l[j] = x := by
  obtain ⟨j, hj, e⟩ := List.getElem_of_mem h
  rw [List.length_drop] at hj
  exact ⟨m + j, by omega, by omega, by rw [← e]; simp⟩
/-- A plate that is not there, put in in its place. -/
theorem put_rising {l : List S25} (hg : Good l) {a b : Int} (hp : M.plateB a b = true) {m : Nat} (hm : m ≤ l.length) (h3 : ∀ j, j < m → prk l j < M.rank a b) (h4 : m < l.length → M.rank a b ≤ prk l m) (hn : ¬ (m < l.length ∧ pn l m = a ∧ pl l m = b)) :
    Plates (l.take m ++ ⟨a, b⟩ :: l.drop m) ∧ Rising (l.take m ++ ⟨a, b⟩ :: l.drop m) := by
  obtain ⟨_, _, g3, g4⟩ := (good_iff l).1 hg
  have hlt : ∀ j, m ≤ j → (hj : j < l.length) → M.rank a b < prk l j := by
    intro j hmj hj
    have h5 := h4 (by omega)
    have h6 : M.rank a b ≠ prk l m := fun e => by
      have hml : m < l.length := by omega
      obtain ⟨e1, e2⟩ := M.rank_inj hp (hg.2.2.1 m hml) e
      exact hn ⟨hml, e1.symm, e2.symm⟩
    by_cases c : j = m
    · subst c; omega
    · have := good_lt hg (i := m) (j := j) (by omega) hj
      omega
  refine ⟨fun x hx => ?_, ?_⟩
  · rcases List.mem_append.1 hx with h | h
    · exact g3 x (List.mem_of_mem_take h)
    · rcases List.mem_cons.1 h with rfl | h
      · exact hp
      · exact g3 x (List.mem_of_mem_drop h)
  · unfold Rising
    rw [List.pairwise_append, List.pairwise_cons]
    refine ⟨List.Pairwise.sublist (List.take_sublist m l) g4, ⟨fun y hy => ?_, List.Pairwise.sublist (List.drop_sublist m l) g4⟩, fun x hx y hy => ?_⟩
    · obtain ⟨j, hmj, hj, rfl⟩ := drop_of hy
      have := hlt j hmj hj
      rw [prk_get hj] at this
      exact this
    · obtain ⟨i, him, hi, rfl⟩ := take_of hx
      have h5 := h3 i him
      rw [prk_get hi] at h5
      rcases List.mem_cons.1 hy with rfl | hy
      · exact h5
      · obtain ⟨j, hmj, hj, rfl⟩ := drop_of hy
        have := hlt j hmj hj
        rw [prk_get hj] at this
        omega
theorem isAdd_ok (l : List S25) (hg : Good l) (a b : Int) (hp : M.plateB a b = true) : ∃ r : List S25 × Bool, Ev (fun k => spec_isAdd.f k l a b) r ∧ (r.2 = true → Good r.1) := by
  obtain ⟨m, h2, h3, h4, h5⟩ := isPlace_ev l hg a b hp
  have hl60 := hg.2.1
  unfold spec_isAdd.f
  by_cases c : m < l.length ∧ pn l m = a ∧ pl l m = b
  · refine ⟨([], false), Ev.bind h5 (M.Ev_some fun k => ?_), fun z => by cases z⟩
    simp only [c, and_self, decide_true, if_true]
  · by_cases c6 : l.length = 60
    · refine ⟨([], false), Ev.bind h5 (M.Ev_some fun k => ?_), fun z => by cases z⟩
      simp only [c, decide_false, Bool.false_eq_true, if_false]
      rw [if_pos (by omega)]
    · obtain ⟨p1, p2⟩ := put_rising hg hp h2 h3 h4 c
      refine ⟨(l.take m ++ ⟨a, b⟩ :: l.drop m, true), Ev.bind h5 (M.Ev_some fun k => ?_), fun _ => (good_iff _).2 ⟨by simp; omega, by simp; omega, p1, p2⟩⟩
      simp only [c, decide_false, Bool.false_eq_true, if_false]
      rw [if_neg (by omega)]
      simp only [Option.bind_some, List.length_nil, Nat.zero_add, List.nil_append, List.length_singleton, Int.toNat_natCast]
      rw [if_pos (by omega), if_pos (by omega), if_pos (by rw [List.length_take]; omega), if_pos (by simp; omega), if_pos (by simp; omega)]
      simp
theorem u64_range (z : Int) : 0 ≤ IntKind.u64.wrap z ∧ IntKind.u64.wrap z < 18446744073709551616 := by
  simp [IntKind.wrap, IntKind.bits, IntKind.signed]
  omega
theorem and255 (z : Int) (h0 : 0 ≤ z) (h1 : z < 18446744073709551616) : 0 ≤ Go.bits .and .u64 z 255 ∧ Go.bits .and .u64 z 255 ≤ 255 := by
  obtain ⟨n, rfl⟩ := Int.eq_ofNat_of_zero_le h0
  rw [show (255 : Int) = ((255 : Nat) : Int) from rfl, bits_and_u64_nat _ _ (by omega) (by omega)]
  have := @Nat.and_le_right n 255
  omega
/-- Bytes, as numbers. -/
def InB (l : List Int) : Prop := ∀ x ∈ l, 0 ≤ x ∧ x ≤ 255
theorem rd_byte {l : List Int} (hl : InB l) {i : Int} (h1 : i < (l.length : Int)) (h0 : 0 ≤ i) : 0 ≤ rd l i ∧ rd l i ≤ 255 := by
  unfold rd
  rw [List.getD_eq_getElem?_getD, List.getElem?_eq_getElem (by omega)]
  exact hl _ (List.getElem_mem _)
theorem next_ok {l : List Int} (hl : InB l) {a : Int} (h0 : 0 ≤ a) (h1 : a ≤ 100000) (s : Int) : ∃ x s', spec_l1Cur_next.f l a s = some (x, a + 1, s') ∧ 0 ≤ x ∧ x ≤ 255 := by
  have e : wrap64 (a + 1) = a + 1 := M.w64 (by omega) (by omega)
  unfold spec_l1Cur_next.f
  rw [e]
  by_cases c : a < (l.length : Int)
  · have hb := rd_byte hl c h0
    rw [if_pos c, if_pos h0, M.w64 (x := rd l a) (by omega) (by omega), if_pos (by omega)]
    exact ⟨_, _, rfl, hb.1, hb.2⟩
  · rw [if_neg c, if_neg (by omega)]
    have g : ∀ y : Int, 0 ≤ wrap64 (Go.bits .and .u64 (IntKind.u64.wrap y / 1099511627776) 255) ∧ wrap64 (Go.bits .and .u64 (IntKind.u64.wrap y / 1099511627776) 255) ≤ 255 := by
      intro y
      have h := u64_range y
      have h2 := and255 (IntKind.u64.wrap y / 1099511627776) (by omega) (by omega)
      rw [M.w64 (by omega) (by omega)]
      exact h2
    exact ⟨_, _, rfl, g _⟩
theorem pick_ok {l : List Int} (hl : InB l) {a : Int} (h0 : 0 ≤ a) (h1 : a ≤ 90000) (s n : Int) : ∃ x a' s', spec_l1Cur_pick.f l a s n = some (x, a', s') ∧ 0 ≤ x ∧ (1 ≤ n → x < n) ∧ a ≤ a' ∧ a' ≤ a + 2 := by
  unfold spec_l1Cur_pick.f
  by_cases c : n ≤ 1
  · rw [if_pos c]
    exact ⟨_, _, _, rfl, by omega, by omega, by omega, by omega⟩
  · obtain ⟨x, s1, e1, hx0, hx1⟩ := next_ok hl h0 (by omega) s
    rw [if_neg c, e1]
    simp only [Option.bind_some]
    by_cases c2 : n > 200
    · obtain ⟨y, s2, e2, hy0, hy1⟩ := next_ok hl (a := a + 1) (by omega) (by omega) s1
      rw [if_pos c2, e2]
      simp only [Option.bind_some]
      rw [if_neg (by omega), M.w64 (x := x * 256) (by omega) (by omega), M.w64 (x := x * 256 + y) (by omega) (by omega)]
      exact ⟨_, _, _, rfl, Int.tmod_nonneg _ (by omega), fun _ => Int.tmod_lt_of_pos _ (by omega), by omega, by omega⟩
    · rw [if_neg c2, if_neg (by omega)]
      exact ⟨_, _, _, rfl, Int.tmod_nonneg _ (by omega), fun _ => Int.tmod_lt_of_pos _ (by omega), by omega, by omega⟩
theorem among_ok {l : List Int} (hl : InB l) {a : Int} (h0 : 0 ≤ a) (h1 : a ≤ 90000) (s : Int) (m : List Int) (hm : 1 ≤ m.length) : ∃ x a' s', spec_l1Cur_among.f l a s m = some (x, a', s') ∧ x ∈ m ∧ a ≤ a' ∧ a' ≤ a + 2 := by
  obtain ⟨x, a1, s1, e, hx0, hx1, ha⟩ := pick_ok hl h0 h1 s (m.length : Int)
  unfold spec_l1Cur_among.f
  rw [e]
  simp only [Option.bind_some]
  rw [if_pos hx0, if_pos (hx1 (by omega))]
  refine ⟨_, _, _, rfl, ?_, ha⟩
  unfold rd
  have := hx1 (by omega)
  rw [List.getD_eq_getElem?_getD, List.getElem?_eq_getElem (by omega)]
  exact List.getElem_mem _
theorem one_ok {l : List Int} (hl : InB l) {a : Int} (h0 : 0 ≤ a) (h1 : a ≤ 90000) (s n : Int) : ∃ b a' s', spec_l1Cur_one.f l a s n = some (b, a', s') ∧ a ≤ a' ∧ a' ≤ a + 2 := by
  obtain ⟨x, a1, s1, e, _, _, ha⟩ := pick_ok hl h0 h1 s n
  unfold spec_l1Cur_one.f
  rw [e]
  exact ⟨_, _, _, rfl, ha⟩
/-! ### Plates that are drawn -/
theorem surePlate_ok {l : List Int} (hl : InB l) {a : Int} (h0 : 0 ≤ a) (h1 : a ≤ 80000) (s : Int) : ∃ n p a' s', spec_l1Cur_surePlate.f l a s = some (n, p, a', s') ∧ M.plateB n p = true ∧ a ≤ a' ∧ a' ≤ a + 6 := by
  obtain ⟨b, a1, s1, e1, ha⟩ := one_ok hl h0 (by omega) s 10
  unfold spec_l1Cur_surePlate.f
  rw [e1]
  simp only [Option.bind_some]
  cases b with
  | true =>
    obtain ⟨x, a2, s2, e2, hx, hb⟩ := among_ok hl (a := a1) (by omega) (by omega) s1 [1, 9, 10, 9999] (by simp)
    obtain ⟨y, a3, s3, e3, hy, hc⟩ := among_ok hl (a := a2) (by omega) (by omega) s2 [0, 1, 25, 26] (by simp)
    simp only [if_true, e2, e3, Option.bind_some]
    refine ⟨x, y, a3, s3, rfl, M.plateB_iff.2 ?_, by omega, by omega⟩
    simp at hx hy
    omega
  | false =>
    obtain ⟨x, a2, s2, e2, hx0, hx1, hb⟩ := pick_ok hl (a := a1) (by omega) (by omega) s1 9
    obtain ⟨y, a3, s3, e3, hy, hc⟩ := among_ok hl (a := a2) (by omega) (by omega) s2 [0, 0, 1, 2, 3, 26] (by simp)
    have := hx1 (by omega)
    simp only [Bool.false_eq_true, if_false, e2, e3, Option.bind_some]
    rw [M.w64 (x := 1 + x) (by omega) (by omega)]
    refine ⟨1 + x, y, a3, s3, rfl, M.plateB_iff.2 ?_, by omega, by omega⟩
    simp at hy
    omega
theorem plate_ok {l : List Int} (hl : InB l) {a : Int} (h0 : 0 ≤ a) (h1 : a ≤ 70000) (s : Int) : ∃ n p a' s', spec_l1Cur_plate.f l a s = some (n, p, a', s') ∧ a ≤ a' ∧ a' ≤ a + 8 := by
  obtain ⟨b, a1, s1, e1, ha⟩ := one_ok hl h0 (by omega) s 14
  unfold spec_l1Cur_plate.f
  rw [e1]
  simp only [Option.bind_some]
  cases b with
  | true =>
    obtain ⟨x, a2, s2, e2, hx, hb⟩ := among_ok hl (a := a1) (by omega) (by omega) s1 [(-1), 0, 1, 9999, 10000, 4611686018427387904] (by simp)
    obtain ⟨y, a3, s3, e3, hy, hc⟩ := among_ok hl (a := a2) (by omega) (by omega) s2 [(-1), 0, 26, 27, 4611686018427387904] (by simp)
    simp only [if_true, e2, e3, Option.bind_some]
    exact ⟨x, y, a3, s3, rfl, by omega, by omega⟩
  | false =>
    obtain ⟨x, y, a2, s2, e2, _, hb⟩ := surePlate_ok hl (a := a1) (by omega) (by omega) s1
    simp only [Bool.false_eq_true, if_false, e2, Option.bind_some]
    exact ⟨x, y, a2, s2, rfl, by omega, by omega⟩
theorem good_one {n p : Int} (h : M.plateB n p = true) : Good [(⟨n, p⟩ : S25)] := by
  refine ⟨by simp, by simp, fun i hi => ?_, fun i hi => by simp at hi⟩
  obtain rfl : i = 0 := by simpa using hi
  exact h
theorem sures_loop {l : List Int} (hl : InB l) : ∀ (n : Nat) (L : List S25) (a s : Int), n ≤ 8 → Good L → 0 ≤ a → a + 6 * n ≤ 80000 → ∃ r a' s', Ev (fun k => spec_l1Cur_surePlates.l0 k L (n : Int) l a s) (r, a', s') ∧ Good r ∧ a ≤ a' ∧ a' ≤ a + 6 * n
  | 0, L, a, s, _, hg, _, _ => by
    refine ⟨L, a, s, M.Ev_succ (M.Ev_some fun k => ?_), hg, by omega, by omega⟩
    simp [spec_l1Cur_surePlates.l0]
  | n + 1, L, a, s, hn, hg, h0, h1 => by
    obtain ⟨x, y, a1, s1, e1, hp, ha⟩ := surePlate_ok hl h0 (by omega) s
    obtain ⟨r, hr, hr2⟩ := isAdd_ok L hg x y hp
    have en : wrap64 (((n + 1 : Nat) : Int) - 1) = (n : Int) := by rw [M.w64 (by omega) (by omega)]; omega
    have hpos : ((n + 1 : Nat) : Int) > 0 := by omega
    cases hb : r.2 with
    | true =>
      obtain ⟨q, a', s', hq, hgq, hc⟩ := sures_loop hl n r.1 a1 s1 (by omega) (hr2 hb) (by omega) (by omega)
      refine ⟨q, a', s', M.Ev_succ ?_, hgq, by omega, by omega⟩
      simp only [spec_l1Cur_surePlates.l0, if_pos hpos, e1, Option.bind_some, en]
      refine Ev.bind hr ?_
      simp only [hb, if_true]
      exact hq
    | false =>
      obtain ⟨q, a', s', hq, hgq, hc⟩ := sures_loop hl n L a1 s1 (by omega) hg (by omega) (by omega)
      refine ⟨q, a', s', M.Ev_succ ?_, hgq, by omega, by omega⟩
      simp only [spec_l1Cur_surePlates.l0, if_pos hpos, e1, Option.bind_some, en]
      refine Ev.bind hr ?_
      simp only [hb, Bool.false_eq_true, if_false]
      exact hq
theorem surePlates_ok {l : List Int} (hl : InB l) {a : Int} (h0 : 0 ≤ a) (h1 : a ≤ 70000) (s m : Int) (hm : 1 ≤ m ∧ m ≤ 8) : ∃ r a' s', Ev (fun k => spec_l1Cur_surePlates.f k l a s m) (r, a', s') ∧ Good r ∧ a ≤ a' ∧ a' ≤ a + 60 := by
  obtain ⟨x, y, a1, s1, e1, hp, ha⟩ := surePlate_ok hl h0 (by omega) s
  obtain ⟨z, a2, s2, e2, hz0, hz1, hb⟩ := pick_ok hl (a := a1) (by omega) (by omega) s1 m
  have := hz1 hm.1
  obtain ⟨n, rfl⟩ := Int.eq_ofNat_of_zero_le hz0
  obtain ⟨r, a', s', hr, hg, hc⟩ := sures_loop hl n [(⟨x, y⟩ : S25)] a2 s2 (by omega) (good_one hp) (by omega) (by omega)
  refine ⟨r, a', s', ?_, hg, by omega, by omega⟩
  unfold spec_l1Cur_surePlates.f
  simp only [e1, e2, Option.bind_some]
  exact hr
theorem plates_loop {l : List Int} (hl : InB l) : ∀ (d : Nat) (L : List S25) (a s : Int), L.length + d = 61 → 0 ≤ a → a + 2 * d ≤ 80000 → ∃ r a' s', Ev (fun k => spec_l1Cur_plates.l0 k L l a s) (r, a', s') ∧ r.length ≤ 61 ∧ a ≤ a' ∧ a' ≤ a + 2 * d + 2
  | 0, L, a, s, hL, h0, h1 => by
    obtain ⟨x, a1, s1, e1, hx0, hx1, ha⟩ := pick_ok hl h0 (by omega) s 2
    have := hx1 (by omega)
    refine ⟨L, a1, s1, M.Ev_succ (M.Ev_some fun k => ?_), by omega, by omega, by omega⟩
    simp only [spec_l1Cur_plates.l0, e1, Option.bind_some]
    rw [M.w64 (x := 60 + x) (by omega) (by omega), if_neg (by omega)]
  | d + 1, L, a, s, hL, h0, h1 => by
    obtain ⟨x, a1, s1, e1, hx0, hx1, ha⟩ := pick_ok hl h0 (by omega) s 2
    have := hx1 (by omega)
    by_cases c : (L.length : Int) < 60 + x
    · obtain ⟨r, a', s', hr, hq, hb⟩ := plates_loop hl d (L ++ [(⟨wrap64 (1 + (L.length : Int)), 0⟩ : S25)]) a1 s1 (by simp; omega) (by omega) (by omega)
      refine ⟨r, a', s', M.Ev_succ ?_, hq, by omega, by omega⟩
      simp only [spec_l1Cur_plates.l0, e1, Option.bind_some, M.w64 (x := 60 + x) (by omega) (by omega), if_pos c, if_pos (show L.length < 8796093022208 by omega)]
      exact hr
    · refine ⟨L, a1, s1, M.Ev_succ (M.Ev_some fun k => ?_), by omega, by omega, by omega⟩
      simp only [spec_l1Cur_plates.l0, e1, Option.bind_some]
      rw [M.w64 (x := 60 + x) (by omega) (by omega), if_neg c]
theorem plates_ok {l : List Int} (hl : InB l) {a : Int} (h0 : 0 ≤ a) (h1 : a ≤ 60000) (s : Int) : ∃ r a' s', Ev (fun k => spec_l1Cur_plates.f k l a s) (r, a', s') ∧ r.length ≤ 61 ∧ a ≤ a' ∧ a' ≤ a + 300 := by
  obtain ⟨L, a1, s1, e1, hg, ha⟩ := surePlates_ok hl h0 (by omega) s 8 (by omega)
  obtain ⟨z, a2, s2, e2, hz0, hz1, hb⟩ := pick_ok hl (a := a1) (by omega) (by omega) s1 16
  have hL := hg.2.1
  unfold spec_l1Cur_plates.f
  by_cases c0 : z = 0
  · refine ⟨[], a2, s2, Ev.bind e1 (M.Ev_some fun k => ?_), by simp, by omega, by omega⟩
    simp only [e2, Option.bind_some, if_pos c0]
  · by_cases c1 : z = 1
    · obtain ⟨x, y, a3, s3, e3, hc⟩ := plate_ok hl (a := a2) (by omega) (by omega) s2
      refine ⟨L ++ [(⟨x, y⟩ : S25)], a3, s3, Ev.bind e1 (M.Ev_some fun k => ?_), by simp; omega, by omega, by omega⟩
      simp only [e2, Option.bind_some, if_neg c0, if_pos c1, e3, if_pos (show L.length < 8796093022208 by omega)]
    · by_cases c2 : z = 2
      · obtain ⟨r, a', s', hr, hq, hc⟩ := plates_loop hl 61 [] a2 s2 (by simp) (by omega) (by omega)
        refine ⟨r, a', s', Ev.bind e1 ?_, hq, by omega, by omega⟩
        simp only [e2, Option.bind_some, if_neg c0, if_neg c1, if_pos c2]
        exact hr
      · refine ⟨L, a2, s2, Ev.bind e1 (M.Ev_some fun k => ?_), by omega, by omega, by omega⟩
        simp only [e2, Option.bind_some, if_neg c0, if_neg c1, if_neg c2]
theorem add_sz (x y : ByteArray) : (x ++ y).size = x.size + y.size := ByteArray.size_append
theorem spoilt_loop {l : List Int} (hl : InB l) (w : ByteArray) (hw : 1 ≤ w.size) (hw2 : w.size ≤ 1000) : ∀ (n : Nat) (t : ByteArray) (a : Int) (s : Int), n ≤ 2 → t.size + n ≤ 3000 → 0 ≤ a → a + 6 * n ≤ 70000 → ∃ r a' s', Ev (fun k => spec_l1Cur_spoilt.l0 k t w (n : Int) l a s) (r, a', s') ∧ r.size ≤ t.size + n
  | 0, t, a, s, _, _, _, _ => by
    refine ⟨t, a, s, M.Ev_succ (M.Ev_succ (M.Ev_some fun k => ?_)), by omega⟩
    simp [spec_l1Cur_spoilt.l0, spec_l1Cur_spoilt.j1]
  | n + 1, t, a, s, hn, ht, h0, h1 => by
    by_cases c : t.size = 0
    · refine ⟨t, a, s, M.Ev_succ (M.Ev_succ (M.Ev_some fun k => ?_)), by omega⟩
      simp [spec_l1Cur_spoilt.l0, spec_l1Cur_spoilt.j1, c]
    · obtain ⟨i, a1, s1, e1, hi0, hi1, ha⟩ := pick_ok hl h0 (by omega) s (t.size : Int)
      obtain ⟨x, a2, s2, e2, hx0, hx1, hb⟩ := pick_ok hl (a := a1) (by omega) (by omega) s1 (w.size : Int)
      obtain ⟨z, a3, s3, e3, hz0, hz1, hc⟩ := pick_ok hl (a := a2) (by omega) (by omega) s2 3
      have hi := hi1 (by omega)
      have hx := hx1 (by omega)
      have ei : wrap64 (i + 1) = i + 1 := M.w64 (by omega) (by omega)
      have en : wrap64 (((n + 1 : Nat) : Int) - 1) = (n : Int) := by rw [M.w64 (by omega) (by omega)]; omega
      have q1 : (t.extract 0 i.toNat).size = i.toNat := by rw [ByteArray.size_extract]; omega
      have q2 : (t.extract i.toNat t.size).size = t.size - i.toNat := by rw [ByteArray.size_extract]; omega
      have q3 : (t.extract (i + 1).toNat t.size).size = t.size - i.toNat - 1 := by rw [ByteArray.size_extract]; omega
      have q4 : ∀ c : Int, (strOfNums [c]).size = 1 := fun c => by rw [strOfNums_size]; rfl
      have step : ∀ (u : ByteArray), u.size ≤ t.size + 1 → (∀ k, spec_l1Cur_spoilt.l0 (k + 1 + 1) t w ((n + 1 : Nat) : Int) l a s = spec_l1Cur_spoilt.l0 k u w (n : Int) l a3 s3) → ∃ r a' s', Ev (fun k => spec_l1Cur_spoilt.l0 k t w ((n + 1 : Nat) : Int) l a s) (r, a', s') ∧ r.size ≤ t.size + (n + 1) := by
        intro u hu hk
        obtain ⟨r, a', s', hr, hs⟩ := spoilt_loop hl w hw hw2 n u a3 s3 (by omega) (by omega) (by omega) (by omega)
        exact ⟨r, a', s', M.Ev_succ (M.Ev_succ (by simp only [hk]; exact hr)), by omega⟩
      have hp : ((n + 1 : Nat) : Int) > 0 := by omega
      have ht0 : decide ((t.size : Int) > 0) = true := decide_eq_true (by omega)
      by_cases z0 : z = 0
      · refine step (t.extract 0 i.toNat ++ strOfNums [bt w x] ++ t.extract i.toNat t.size) (by rw [add_sz, add_sz, q1, q2, q4]; omega) fun k => ?_
        simp only [spec_l1Cur_spoilt.l0, if_pos hp, spec_l1Cur_spoilt.j1, ht0, if_true, e1, e2, e3, Option.bind_some, if_pos hx0, if_pos hx, if_pos z0, if_pos hi0, if_pos (show i ≤ (t.size : Int) by omega), en]
        rw [if_pos (by rw [q1, q4]; omega), if_pos (by rw [add_sz, q1, q2, q4]; omega)]
      · by_cases z1 : z = 1
        · refine step (t.extract 0 i.toNat ++ strOfNums [bt w x] ++ t.extract (i + 1).toNat t.size) (by rw [add_sz, add_sz, q1, q3, q4]; omega) fun k => ?_
          simp only [spec_l1Cur_spoilt.l0, if_pos hp, spec_l1Cur_spoilt.j1, ht0, if_true, e1, e2, e3, Option.bind_some, if_pos hx0, if_pos hx, if_neg z0, if_pos z1, if_pos hi0, if_pos (show i ≤ (t.size : Int) by omega), en, ei, if_pos (show 0 ≤ i + 1 by omega), if_pos (show i + 1 ≤ (t.size : Int) by omega)]
          rw [if_pos (by rw [q1, q4]; omega), if_pos (by rw [add_sz, q1, q3, q4]; omega)]
        · refine step (t.extract 0 i.toNat ++ t.extract (i + 1).toNat t.size) (by rw [add_sz, q1, q3]; omega) fun k => ?_
          simp only [spec_l1Cur_spoilt.l0, if_pos hp, spec_l1Cur_spoilt.j1, ht0, if_true, e1, e2, e3, Option.bind_some, if_pos hx0, if_pos hx, if_neg z0, if_neg z1, if_pos hi0, if_pos (show i ≤ (t.size : Int) by omega), en, ei, if_pos (show 0 ≤ i + 1 by omega), if_pos (show i + 1 ≤ (t.size : Int) by omega)]
          rw [if_pos (by rw [q1, q3]; omega)]
theorem spoilt_ok {l : List Int} (hl : InB l) {a : Int} (h0 : 0 ≤ a) (h1 : a ≤ 60000) (s : Int) (t w : ByteArray) (ht : t.size ≤ 2900) (hw : 1 ≤ w.size) (hw2 : w.size ≤ 1000) : ∃ r a' s', Ev (fun k => spec_l1Cur_spoilt.f k l a s t w) (r, a', s') ∧ r.size ≤ t.size + 2 := by
  obtain ⟨x, a1, s1, e1, hx0, hx1, ha⟩ := pick_ok hl h0 (by omega) s 2
  have hx := hx1 (by omega)
  obtain ⟨r, a', s', hr, hs⟩ := spoilt_loop hl w hw hw2 (1 + x).toNat t a1 s1 (by omega) (by omega) (by omega) (by omega)
  refine ⟨r, a', s', ?_, by omega⟩
  unfold spec_l1Cur_spoilt.f
  simp only [e1, Option.bind_some]
  rw [M.w64 (by omega) (by omega)]
  rw [show (((1 + x).toNat : Nat) : Int) = 1 + x by omega] at hr
  exact hr
theorem all_ev {α β : Type} {g : α → Nat → Option β} {r : α → β} : ∀ (L : List α), (∀ m ∈ L, Ev (g m) (r m)) → ∃ K, ∀ m ∈ L, ∀ k, K ≤ k → g m k = some (r m)
  | [], _ => ⟨0, fun m hm => by cases hm⟩
  | x :: L, h => by
    obtain ⟨K1, e1⟩ := h x List.mem_cons_self
    obtain ⟨K2, e2⟩ := all_ev L (fun m hm => h m (List.mem_cons_of_mem _ hm))
    refine ⟨K1 + K2, fun m hm k hk => ?_⟩
    rcases List.mem_cons.1 hm with rfl | hm
    · exact e1 k (by omega)
    · exact e2 m hm k (by omega)
theorem if_ev {β : Type} {c : Prop} {g : Nat → Option β} {r : β} (h : c → Ev g r) : ∃ K, c → ∀ k, K ≤ k → g k = some r := by
  by_cases hc : c
  · obtain ⟨K, e⟩ := h hc
    exact ⟨K, fun _ => e⟩
  · exact ⟨0, fun h => absurd h hc⟩
def cntB (a b c d : Int) : Int × Bool := if M.plateB a b = true ∧ M.plateB c d = true ∧ M.rank a b < M.rank c d then (M.rank c d - M.rank a b - 1, true) else (0, false)
theorem impl_CountBetween_ev (a b c d : Int) : Ev (fun k => impl_CountBetween.f k a b c d) (cntB a b c d) := by
  unfold impl_CountBetween.f cntB
  simp only [impl_IsPlate_eq, Option.bind_some]
  by_cases h1 : M.plateB a b = true
  · by_cases h2 : M.plateB c d = true
    · have b1 := M.rank_bd h1
      have b2 := M.rank_bd h2
      simp only [h1, h2, if_true, impl_rankOf_eq h1, impl_rankOf_eq h2, Option.bind_some, true_and]
      refine M.Ev_succ (M.Ev_some fun k => ?_)
      simp only [impl_CountBetween.j0, impl_rankOf_eq h1, impl_rankOf_eq h2, Option.bind_some]
      by_cases h3 : M.rank a b < M.rank c d
      · rw [if_neg (by simp; omega), if_pos h3, M.w64 (x := M.rank c d - M.rank a b) (by omega) (by omega), M.w64 (by omega) (by omega)]
      · rw [if_pos (by simp; omega), if_neg h3]
    · simp only [h1, h2, if_true, if_false, false_and, and_false]
      exact M.Ev_succ (M.Ev_some fun k => by simp [impl_CountBetween.j0])
  · simp only [h1, if_false, false_and]
    exact M.Ev_succ (M.Ev_some fun k => by simp [impl_CountBetween.j0])
theorem spec_isOf_eq {r : Int} (h : 0 ≤ r) (h2 : r ≤ 1000000) : spec_isOf.f r = some (r / 27, r % 27) := by
  unfold spec_isOf.f
  rw [M.tdiv_pos h, M.tmod_pos h, M.w64 (by omega) (by omega)]
theorem impl_plateAt_eq {r : Int} (h : 0 ≤ r) (h2 : r ≤ 1000000) : impl_plateAt.f r = some (r / 27, r % 27) := by
  unfold impl_plateAt.f
  rw [M.tdiv_pos h, M.tmod_pos h, M.w64 (by omega) (by omega)]
def midR (a b c d : Int) : Int × Int × Bool := if M.plateB a b = true ∧ M.plateB c d = true ∧ 2 ≤ M.rank c d - M.rank a b then ((M.rank a b + M.rank c d) / 2 / 27, (M.rank a b + M.rank c d) / 2 % 27, true) else (0, 0, false)
theorem spec_MiddlePlate_ev (a b c d : Int) : Ev (fun k => spec_MiddlePlate.f k a b c d) (midR a b c d) := by
  unfold spec_MiddlePlate.f midR
  simp only [spec_isPlate_eq, Option.bind_some]
  by_cases h1 : M.plateB a b = true
  · by_cases h2 : M.plateB c d = true
    · have b1 := M.rank_bd h1
      have b2 := M.rank_bd h2
      simp only [h1, h2, if_true, spec_isRank_eq h1, spec_isRank_eq h2, Option.bind_some, true_and]
      refine M.Ev_succ (M.Ev_some fun k => ?_)
      have e1 : wrap64 (M.rank c d - M.rank a b) = M.rank c d - M.rank a b := M.w64 (by omega) (by omega)
      have e2 : wrap64 (M.rank a b + M.rank c d) = M.rank a b + M.rank c d := M.w64 (by omega) (by omega)
      have e3 : wrap64 (Int.tdiv (M.rank a b + M.rank c d) 2) = (M.rank a b + M.rank c d) / 2 := by rw [M.tdiv_pos (by omega), M.w64 (by omega) (by omega)]
      simp only [spec_MiddlePlate.j0, spec_isRank_eq h1, spec_isRank_eq h2, Option.bind_some, e1, e2, e3, spec_isOf_eq (r := (M.rank a b + M.rank c d) / 2) (by omega) (by omega)]
      by_cases h3 : 2 ≤ M.rank c d - M.rank a b
      · rw [if_neg (by simp; omega), if_pos h3]
      · rw [if_pos (by simp; omega), if_neg h3]
    · simp only [h1, h2, if_true, if_false, false_and, and_false]
      exact M.Ev_succ (M.Ev_some fun k => by simp [spec_MiddlePlate.j0])
  · simp only [h1, if_false, false_and]
    exact M.Ev_succ (M.Ev_some fun k => by simp [spec_MiddlePlate.j0])
theorem impl_MiddlePlate_ev (a b c d : Int) : Ev (fun k => impl_MiddlePlate.f k a b c d) (midR a b c d) := by
  unfold impl_MiddlePlate.f
  refine Ev.bind (impl_CountBetween_ev a b c d) ?_
  unfold cntB midR
  by_cases h : M.plateB a b = true ∧ M.plateB c d = true ∧ M.rank a b < M.rank c d
  · have b1 := M.rank_bd h.1
    have b2 := M.rank_bd h.2.1
    simp only [h, and_self, if_true, true_and]
    refine M.Ev_succ (M.Ev_some fun k => ?_)
    by_cases h3 : 2 ≤ M.rank c d - M.rank a b
    · have e0 : (M.rank c d - M.rank a b - 1 == 0) = false := by simp; omega
      have w1 : wrap64 (M.rank a b + 1) = M.rank a b + 1 := M.w64 (by omega) (by omega)
      have w2 : wrap64 (M.rank c d - M.rank a b - 1 - 1) = M.rank c d - M.rank a b - 1 - 1 := M.w64 (by omega) (by omega)
      have w3 : wrap64 (Int.tdiv (M.rank c d - M.rank a b - 1 - 1) 2) = (M.rank c d - M.rank a b - 1 - 1) / 2 := by rw [M.tdiv_pos (by omega), M.w64 (by omega) (by omega)]
      have w4 : wrap64 (M.rank a b + 1 + (M.rank c d - M.rank a b - 1 - 1) / 2) = (M.rank a b + M.rank c d) / 2 := by rw [M.w64 (by omega) (by omega)]; omega
      simp only [impl_MiddlePlate.j0, e0, Bool.false_eq_true, if_false, impl_rankOf_eq h.1, Option.bind_some, w1, w2, w3, w4, impl_plateAt_eq (r := (M.rank a b + M.rank c d) / 2) (by omega) (by omega), h3, if_true]
    · have e0 : (M.rank c d - M.rank a b - 1 == 0) = true := by simp; omega
      simp only [impl_MiddlePlate.j0, e0, if_true, h3, if_false]
  · have h' : ¬ (M.plateB a b = true ∧ M.plateB c d = true ∧ 2 ≤ M.rank c d - M.rank a b) := fun z => h ⟨z.1, z.2.1, by omega⟩
    rw [if_neg h, if_neg h']
    simp only [Bool.false_eq_true, if_false]
    exact M.Ev_succ (M.Ev_some fun k => by simp [impl_MiddlePlate.j0])
def cmpI (a b : Int) : Int := if a < b then -1 else if b < a then 1 else 0
theorem cmp_Compare_eq (x y : Int) : cmp_Compare_int.f x y = some (cmpI x y) := by
  unfold cmp_Compare_int.f cmp_isNaN_int.f cmpI
  simp only [Option.bind_some, bne_self_eq_false, Bool.false_eq_true, if_false, gt_iff_lt]
  repeat' split
  all_goals rfl
theorem cmpI_neg (a b : Int) : cmpI a b < 0 ↔ a < b := by
  unfold cmpI
  repeat' split
  all_goals omega
def cmpR (a b c d : Int) : Int × Bool := if M.plateB a b = true ∧ M.plateB c d = true then (cmpI (M.rank a b) (M.rank c d), true) else (0, false)
theorem impl_ComparePlates_ev (a b c d : Int) : Ev (fun k => impl_ComparePlates.f k a b c d) (cmpR a b c d) := by
  unfold impl_ComparePlates.f cmpR
  simp only [impl_IsPlate_eq, Option.bind_some]
  by_cases h1 : M.plateB a b = true
  · by_cases h2 : M.plateB c d = true
    · have b1 := M.rank_bd h1
      have b2 := M.rank_bd h2
      simp only [h1, h2, if_true, and_self, Bool.not_true]
      refine M.Ev_succ (M.Ev_some fun k => ?_)
      simp only [impl_ComparePlates.j0, Bool.false_eq_true, if_false, impl_rankOf_eq h1, impl_rankOf_eq h2, Option.bind_some, cmp_Compare_eq]
    · simp only [h1, h2, if_true, if_false, and_false, Bool.not_eq_true, Bool.not_false]
      exact M.Ev_succ (M.Ev_some fun k => by simp [impl_ComparePlates.j0, h2])
  · simp only [h1, if_false, false_and]
    exact M.Ev_succ (M.Ev_some fun k => by simp [impl_ComparePlates.j0])
theorem spec_l1Sign_eq (x y : Int) : spec_l1Sign.f (x - y) = some (cmpI x y) := by
  unfold spec_l1Sign.f cmpI
  by_cases h1 : x < y
  · rw [if_neg (by omega), if_pos (by omega), if_pos h1]
  · by_cases h2 : y < x
    · rw [if_pos (by omega), if_neg h1, if_pos h2]
    · rw [if_neg (by omega), if_neg (by omega), if_neg h1, if_neg h2]
theorem spec_ComparePlates_ev (a b c d : Int) : Ev (fun k => spec_ComparePlates.f k a b c d) (cmpR a b c d) := by
  unfold spec_ComparePlates.f cmpR
  simp only [spec_isPlate_eq, Option.bind_some]
  by_cases h1 : M.plateB a b = true
  · by_cases h2 : M.plateB c d = true
    · have b1 := M.rank_bd h1
      have b2 := M.rank_bd h2
      simp only [h1, h2, if_true, and_self, Bool.not_true]
      refine M.Ev_succ (M.Ev_some fun k => ?_)
      simp only [spec_ComparePlates.j0, Bool.false_eq_true, if_false, spec_isRank_eq h1, spec_isRank_eq h2, Option.bind_some]
      rw [M.w64 (by omega) (by omega), spec_l1Sign_eq]
      rfl
    · simp only [h1, h2, if_true, if_false, and_false, Bool.not_eq_true, Bool.not_false]
      exact M.Ev_succ (M.Ev_some fun k => by simp [spec_ComparePlates.j0, h2])
  · simp only [h1, if_false, false_and]
    exact M.Ev_succ (M.Ev_some fun k => by simp [spec_ComparePlates.j0])
theorem spec_CountBetween_ev (a b c d : Int) : Ev (fun k => spec_CountBetween.f k a b c d) (cntB a b c d) := by
  unfold spec_CountBetween.f cntB
  simp only [spec_isPlate_eq, Option.bind_some]
  by_cases h1 : M.plateB a b = true
  · by_cases h2 : M.plateB c d = true
    · have b1 := M.rank_bd h1
      have b2 := M.rank_bd h2
      simp only [h1, h2, if_true, spec_isRank_eq h1, spec_isRank_eq h2, Option.bind_some, true_and]
      refine M.Ev_succ (M.Ev_some fun k => ?_)
      simp only [spec_CountBetween.j0, spec_isRank_eq h1, spec_isRank_eq h2, Option.bind_some]
      by_cases h3 : M.rank a b < M.rank c d
      · rw [if_neg (by simp; omega), if_pos h3, M.w64 (x := M.rank c d - M.rank a b) (by omega) (by omega), M.w64 (by omega) (by omega)]
      · rw [if_pos (by simp; omega), if_neg h3]
    · simp only [h1, h2, if_true, if_false, false_and, and_false]
      exact M.Ev_succ (M.Ev_some fun k => by simp [spec_CountBetween.j0])
  · simp only [h1, if_false, false_and]
    exact M.Ev_succ (M.Ev_some fun k => by simp [spec_CountBetween.j0])
def nextP (a b : Int) : Int × Int × Bool := if M.plateB a b = true ∧ M.rank a b ≠ 269999 then ((M.rank a b + 1) / 27, (M.rank a b + 1) % 27, true) else (0, 0, false)
theorem impl_NextPlate_ev (a b : Int) : Ev (fun k => impl_NextPlate.f k a b) (nextP a b) := by
  unfold impl_NextPlate.f nextP
  simp only [impl_IsPlate_eq, Option.bind_some]
  by_cases h1 : M.plateB a b = true
  · have b1 := M.rank_bd h1
    simp only [h1, if_true, true_and, impl_rankOf_eq h1, Option.bind_some]
    refine M.Ev_succ (M.Ev_some fun k => ?_)
    simp only [impl_NextPlate.j0, impl_rankOf_eq h1, Option.bind_some]
    rw [M.w64 (x := M.rank a b + 1) (by omega) (by omega)]
    simp only [impl_plateAt_eq (r := M.rank a b + 1) (by omega) (by omega), Option.bind_some]
    by_cases h2 : M.rank a b = 269999
    · rw [if_pos (by rw [h2]; rfl), if_neg (by simp [h2])]
    · rw [if_neg (by simpa using h2), if_pos h2]
  · simp only [h1, if_false, false_and]
    exact M.Ev_succ (M.Ev_some fun k => by simp [impl_NextPlate.j0])
theorem spec_NextPlate_ev (a b : Int) : Ev (fun k => spec_NextPlate.f k a b) (nextP a b) := by
  unfold spec_NextPlate.f nextP
  simp only [spec_isPlate_eq, Option.bind_some]
  by_cases h1 : M.plateB a b = true
  · have b1 := M.rank_bd h1
    simp only [h1, if_true, true_and, spec_isRank_eq h1, Option.bind_some]
    rw [M.w64 (x := M.rank a b + 1) (by omega) (by omega)]
    simp only [spec_isOf_eq (r := M.rank a b + 1) (by omega) (by omega), Option.bind_some, spec_isPlate_eq]
    refine M.Ev_succ (M.Ev_some fun k => ?_)
    simp only [spec_NextPlate.j0, spec_isRank_eq h1, Option.bind_some]
    rw [M.w64 (x := M.rank a b + 1) (by omega) (by omega)]
    simp only [spec_isOf_eq (r := M.rank a b + 1) (by omega) (by omega), Option.bind_some]
    by_cases h2 : M.rank a b = 269999
    · rw [if_pos (by rw [h2]; decide), if_neg (by simp [h2])]
    · rw [if_neg (by rw [M.plateB_of _ (by omega) (by omega)]; decide), if_pos h2]
  · simp only [h1, if_false, false_and]
    exact M.Ev_succ (M.Ev_some fun k => by simp [spec_NextPlate.j0])
theorem rank_of (R : Int) : M.rank (R / 27) (R % 27) = R := by
  unfold M.rank
  omega
/-- Compared the other way around. -/
theorem cmp_back {a b c d : Int} (h : (cmpR a b c d).2 = true) : cmpR c d a b = (-(cmpR a b c d).1, true) ∧ ((cmpR a b c d).1 = 0 ↔ a = c ∧ b = d) ∧ -1 ≤ (cmpR a b c d).1 ∧ (cmpR a b c d).1 ≤ 1 := by
  unfold cmpR at h ⊢
  by_cases q : M.plateB a b = true ∧ M.plateB c d = true
  · rw [if_pos q, if_pos ⟨q.2, q.1⟩]
    have e := fun z => M.rank_inj q.1 q.2 z
    have e2 : a = c ∧ b = d → M.rank a b = M.rank c d := by rintro ⟨rfl, rfl⟩; rfl
    generalize M.rank a b = x at *
    generalize M.rank c d = y at *
    unfold cmpI
    by_cases c1 : x < y
    · simp only [c1, show ¬ y < x by omega, if_true, if_false]
      exact ⟨by simp, ⟨fun z => by simp at z, fun z => by have := e2 z; omega⟩, by simp, by simp⟩
    · by_cases c2 : y < x
      · simp only [c1, c2, if_true, if_false]
        exact ⟨by simp, ⟨fun z => by simp at z, fun z => by have := e2 z; omega⟩, by simp, by simp⟩
      · simp only [c1, c2, if_false]
        exact ⟨by simp, ⟨fun _ => e (by omega), fun _ => by simp⟩, by simp, by simp⟩
  · rw [if_neg q] at h
    cases h
/-- Which are between, which are compared. -/
theorem cnt_cmp (a b c d : Int) : (cntB a b c d).2 = ((cmpR a b c d).2 && decide ((cmpR a b c d).1 < 0)) := by
  unfold cntB cmpR
  by_cases q : M.plateB a b = true ∧ M.plateB c d = true
  · rw [if_pos q]
    have := cmpI_neg (M.rank a b) (M.rank c d)
    by_cases c1 : M.rank a b < M.rank c d
    · rw [if_pos ⟨q.1, q.2, c1⟩]
      simp only [Bool.true_and]
      exact (decide_eq_true (this.2 c1)).symm
    · rw [if_neg (fun z => c1 z.2.2)]
      simp only [Bool.true_and]
      exact (decide_eq_false (fun z => c1 (this.1 z))).symm
  · rw [if_neg q, if_neg (fun z => q ⟨z.1, z.2.1⟩)]
    rfl
theorem mid_cnt (a b c d : Int) : (midR a b c d).2.2 = ((cntB a b c d).2 && decide ((cntB a b c d).1 > 0)) := by
  unfold midR cntB
  by_cases q : M.plateB a b = true ∧ M.plateB c d = true
  · by_cases c1 : M.rank a b < M.rank c d
    · rw [if_pos (c := _ ∧ _ ∧ M.rank a b < M.rank c d) ⟨q.1, q.2, c1⟩]
      by_cases c2 : 2 ≤ M.rank c d - M.rank a b
      · rw [if_pos ⟨q.1, q.2, c2⟩]
        simp only [Bool.true_and]
        exact (decide_eq_true (by omega)).symm
      · rw [if_neg (fun z => c2 z.2.2)]
        simp only [Bool.true_and]
        exact (decide_eq_false (by omega)).symm
    · have n1 : ¬ (M.plateB a b = true ∧ M.plateB c d = true ∧ M.rank a b < M.rank c d) := fun z => c1 z.2.2
      have n2 : ¬ (M.plateB a b = true ∧ M.plateB c d = true ∧ 2 ≤ M.rank c d - M.rank a b) := fun z => by have := z.2.2; omega
      rw [if_neg n1, if_neg n2]
      rfl
  · rw [if_neg (fun z => q ⟨z.1, z.2.1⟩), if_neg (fun z => q ⟨z.1, z.2.1⟩)]
    rfl
/-- The middle is in the middle. -/
theorem mid_facts {a b c d : Int} (h : (midR a b c d).2.2 = true) : ∃ x y : Int, cntB a b (midR a b c d).1 (midR a b c d).2.1 = (x, true) ∧ cntB (midR a b c d).1 (midR a b c d).2.1 c d = (y, true) ∧ x + y + 1 = (cntB a b c d).1 ∧ x ≤ y ∧ y ≤ x + 1 ∧ 0 ≤ x ∧ y ≤ 1000000 := by
  unfold midR at h ⊢
  by_cases q : M.plateB a b = true ∧ M.plateB c d = true ∧ 2 ≤ M.rank c d - M.rank a b
  · rw [if_pos q]
    have b1 := M.rank_bd q.1
    have b2 := M.rank_bd q.2.1
    have hp := M.plateB_of ((M.rank a b + M.rank c d) / 2) (by omega) (by omega)
    have hr := rank_of ((M.rank a b + M.rank c d) / 2)
    refine ⟨(M.rank a b + M.rank c d) / 2 - M.rank a b - 1, M.rank c d - (M.rank a b + M.rank c d) / 2 - 1, ?_, ?_, ?_, by omega, by omega, by omega, by omega⟩
    · unfold cntB
      simp only [hr]
      rw [if_pos ⟨q.1, hp, by omega⟩]
    · unfold cntB
      simp only [hr]
      rw [if_pos ⟨hp, q.2.1, by omega⟩]
    · unfold cntB
      rw [if_pos ⟨q.1, q.2.1, by omega⟩]
      simp only
      omega
  · rw [if_neg q] at h
    cases h
theorem next_facts {a b : Int} (h : (nextP a b).2.2 = true) : M.plateB a b = true ∧ cntB a b (nextP a b).1 (nextP a b).2.1 = (0, true) ∧ M.plateB (nextP a b).1 (nextP a b).2.1 = true := by
  unfold nextP at h ⊢
  by_cases q : M.plateB a b = true ∧ M.rank a b ≠ 269999
  · rw [if_pos q]
    have b1 := M.rank_bd q.1
    have hp := M.plateB_of (M.rank a b + 1) (by omega) (by omega)
    have hr := rank_of (M.rank a b + 1)
    refine ⟨q.1, ?_, hp⟩
    unfold cntB
    simp only [hr]
    rw [if_pos ⟨q.1, hp, by omega⟩]
    congr 1
    omega
  · rw [if_neg q] at h
    cases h
/-- The pieces of a text between the commas; cur: what stands ahead in the first piece. -/
def sp (cur : List UInt8) : List UInt8 → List (List UInt8)
  | [] => [cur]
  | c :: l => if c = 44 then cur :: sp [] l else sp (cur ++ [c]) l
theorem sp_total : ∀ (l cur : List UInt8), ((sp cur l).map (fun x => x.length + 1)).sum = cur.length + l.length + 1
  | [], cur => by simp [sp]
  | c :: l, cur => by
    simp only [sp]
    split
    · simp [sp_total l []]; omega
    · rw [sp_total l (cur ++ [c])]; simp; omega
theorem splitK_sp : ∀ (l cur : List UInt8), ∃ h t, Lib.splitK [44] 0 (Lib.count l [44]) l = h :: t ∧ sp cur l = (cur ++ h) :: t
  | [], cur => ⟨[], [], by simp [Lib.count, Lib.countFrom, Lib.index, Lib.splitK], by simp [sp]⟩
  | c :: l, cur => by
    by_cases hc : c = 44
    · subst hc
      have hi : Lib.index (44 :: l) [44] = (0 : Nat) := by simp [Lib.index]
      obtain ⟨h, t, h1, h2⟩ := splitK_sp l []
      refine ⟨[], h :: t, ?_, ?_⟩
      · rw [Lib.count_hit (by simp) hi, Nat.add_comm 1, Lib.splitK]
        simp [hi, h1]
      · simp only [sp, if_true, List.append_nil]
        rw [h2]
        simp
    · obtain ⟨h, t, h1, h2⟩ := splitK_sp l (cur ++ [c])
      have hcount : Lib.count (c :: l) [44] = Lib.count l [44] := Lib.count_cons_ne c 44 l hc
      have hpre : ([44] : List UInt8).isPrefixOf (c :: l) = false := by
        simp [List.isPrefixOf]
        intro e
        exact hc e.symm
      have hs : sp cur (c :: l) = sp (cur ++ [c]) l := by simp only [sp, if_neg hc]
      by_cases hi : Lib.index l [44] = -1
      · have h0 := Lib.count_miss hi
        rw [h0] at h1
        simp only [Lib.splitK, List.cons.injEq] at h1
        obtain ⟨rfl, rfl⟩ := h1
        refine ⟨c :: l, [], ?_, ?_⟩
        · rw [hcount, h0]; rfl
        · rw [hs, h2]; simp
      · obtain ⟨i, hi2⟩ : ∃ i : Nat, Lib.index l [44] = i := ⟨(Lib.index l [44]).toNat, by have := Lib.index_ge l [44]; omega⟩
        have hi3 : Lib.index (c :: l) [44] = ((i + 1 : Nat) : Int) := by
          simp only [Lib.index, hpre, Bool.false_eq_true, if_false, hi2]
          rw [if_neg (by first | (simp; done) | (simp; omega))]
          omega
        have hk := Lib.count_hit (by simp) hi2
        rw [hk, Nat.add_comm 1, Lib.splitK] at h1
        refine ⟨c :: h, t, ?_, ?_⟩
        · rw [hcount, hk, Nat.add_comm 1, Lib.splitK]
          rw [hi2] at h1
          rw [hi3]
          rw [if_neg (by first | (simp; done) | (simp; omega))] at h1 ⊢
          simp only [Int.toNat_natCast, Nat.add_zero, List.length_singleton, List.take_succ_cons, List.cons.injEq, List.drop_succ_cons] at h1 ⊢
          exact ⟨⟨trivial, h1.1⟩, h1.2⟩
        · rw [hs, h2]; simp
theorem bt_byte (s : ByteArray) (i : Nat) (h : i < s.data.toList.length) : bt s (i : Int) = ((s.data.toList[i]).toNat : Int) := by
  have h2 : i < s.size := by rw [Array.length_toList] at h; exact h
  unfold bt
  rw [Int.toNat_natCast, dif_pos h2]
  rfl
theorem l1Split_loop (s : ByteArray) (hs : s.size ≤ 1000000000) : ∀ (d i from_ : Nat) (out : List ByteArray), from_ ≤ i → i ≤ s.size → s.size - i = d → out.length ≤ i → ∃ R, Ev (fun k => spec_l1Split.l0 k s 44 out (from_ : Int) (i : Int)) R ∧ R.map (·.data.toList) = out.map (·.data.toList) ++ sp ((s.data.toList.take i).drop from_) (s.data.toList.drop i) := by
  have hL : s.data.toList.length = s.size := Array.length_toList
  intro d
  induction d with
  | zero =>
    intro i f out hf hi hd ho
    obtain rfl : i = s.size := by omega
    refine ⟨out ++ [s.extract f s.size], M.Ev_succ (M.Ev_some fun k => ?_), ?_⟩
    · simp only [spec_l1Split.l0]
      rw [if_neg (by omega), if_pos (by omega), if_pos (by omega), if_pos (by omega), Int.toNat_natCast]
    · rw [List.map_append, List.map_cons, List.map_nil, ByteArray.data_extract, Array.toList_extract, List.extract_eq_take_drop, List.drop_of_length_le (i := s.size) (by omega), List.take_of_length_le (i := s.size) (by omega)]
      simp only [sp]
      rw [List.take_of_length_le (by rw [List.length_drop]; omega)]
  | succ d ih =>
    intro i f out hf hi hd ho
    have e : wrap64 ((i : Int) + 1) = ((i + 1 : Nat) : Int) := by rw [M.w64 (by omega) (by omega)]; omega
    have hlt : i < s.data.toList.length := by omega
    have hb := bt_byte s i hlt
    have hdrop := List.drop_eq_getElem_cons hlt
    by_cases c : s.data.toList[i] = 44
    · have hb2 : bt s (i : Int) = 44 := by rw [hb, c]; rfl
      obtain ⟨R, h1, h2⟩ := ih (i + 1) (i + 1) (out ++ [s.extract f i]) (by omega) (by omega) (by omega) (by rw [List.length_append]; simp; omega)
      refine ⟨R, M.Ev_succ ?_, ?_⟩
      · simp only [spec_l1Split.l0, show (i : Int) < (s.size : Int) by omega, show (0 : Int) ≤ (i : Int) by omega, if_true, hb2, show (0 : Int) ≤ (f : Int) by omega, show (f : Int) ≤ (i : Int) by omega, show (i : Int) ≤ (s.size : Int) by omega, show out.length < 8796093022208 by omega, Int.toNat_natCast, e]
        exact h1
      · rw [h2, hdrop, List.drop_of_length_le (l := s.data.toList.take (i + 1)) (by rw [List.length_take]; omega)]
        simp only [sp, c, if_true]
        rw [List.map_append, List.map_cons, List.map_nil, ByteArray.data_extract, Array.toList_extract, List.extract_eq_take_drop, List.append_assoc, List.drop_take]
        rfl
    · have hb2 : ¬ bt s (i : Int) = 44 := by
        rw [hb]
        intro z
        apply c
        apply UInt8.toNat_inj.1
        show _ = 44
        omega
      obtain ⟨R, h1, h2⟩ := ih (i + 1) f out (by omega) (by omega) (by omega) (by omega)
      refine ⟨R, M.Ev_succ ?_, ?_⟩
      · simp only [spec_l1Split.l0, show (i : Int) < (s.size : Int) by omega, show (0 : Int) ≤ (i : Int) by omega, if_true, hb2, if_false, e]
        exact h1
      · rw [h2, hdrop]
        simp only [sp, if_neg c]
        rw [List.take_add_one, List.getElem?_eq_getElem hlt, List.drop_append_of_le_length (by rw [List.length_take]; omega)]
        rfl
theorem map_data_inj : ∀ {a b : List ByteArray}, a.map (·.data.toList) = b.map (·.data.toList) → a = b
  | [], [], _ => rfl
  | [], _ :: _, h => by simp at h
  | _ :: _, [], h => by simp at h
  | x :: a, y :: b, h => by
    simp only [List.map_cons, List.cons.injEq] at h
    rw [ByteArray.ext (Array.toList_inj.1 h.1), map_data_inj h.2]
theorem Split_eq (s : ByteArray) (hs : s.size ≤ 1000000000) : ∃ V, strings_Split.f s (⟨#[44]⟩ : ByteArray) = some V ∧ V.map (·.data.toList) = sp [] s.data.toList := by
  unfold strings_Split.f
  refine ⟨_, by rw [if_pos ⟨by omega, by decide⟩], ?_⟩
  rw [Lib.splitB_data]
  obtain ⟨h, t, h1, h2⟩ := splitK_sp s.data.toList []
  rw [show ((⟨#[44]⟩ : ByteArray).data.toList) = [44] from rfl, h2, List.nil_append]
  exact h1
theorem l1Split_ev (s : ByteArray) (hs : s.size ≤ 1000000000) : ∃ V, strings_Split.f s (⟨#[44]⟩ : ByteArray) = some V ∧ Ev (fun k => spec_l1Split.f k s 44) V ∧ V.map (·.data.toList) = sp [] s.data.toList := by
  obtain ⟨V, h1, h2⟩ := Split_eq s hs
  obtain ⟨R, h3, h4⟩ := l1Split_loop s hs s.size 0 0 [] (by omega) (by omega) (by omega) (by simp)
  have : R = V := map_data_inj (by rw [h4, h2]; simp)
  subst this
  exact ⟨R, h1, h3, h2⟩
theorem spec_l1Num_ev : ∀ (n : Nat), n ≤ 9223372036854775807 → Ev (fun k => spec_l1Num.f k (n : Int)) (strOfNums (M.digs n)) := by
  intro n
  induction n using Nat.strongRecOn with
  | ind n ih =>
    intro hn
    by_cases h : n < 10
    · have e2 : (wrap64 (48 + (n : Int))) % 256 = 48 + (n : Int) := by rw [M.w64 (by omega) (by omega)]; omega
      refine M.Ev_succ (M.Ev_some fun k => ?_)
      simp only [spec_l1Num.f]
      rw [if_pos (by omega), M.digs_small h, e2]
    · have e1 : wrap64 (Int.tdiv (n : Int) 10) = ((n / 10 : Nat) : Int) := by
        rw [M.tdiv_pos (by omega), M.w64 (by omega) (by omega)]; omega
      have e2 : (wrap64 (48 + Int.tmod (n : Int) 10)) % 256 = 48 + ((n % 10 : Nat) : Int) := by
        rw [M.tmod_pos (by omega), M.w64 (by omega) (by omega)]; omega
      refine M.Ev_succ ?_
      simp only [spec_l1Num.f, e1, e2, show ¬ ((n : Int) < 10) by omega, if_false]
      refine Ev.bind (ih (n / 10) (by omega) (by omega)) (M.Ev_some fun k => ?_)
      have hs := M.digs_le20 (n := n / 10) (by omega)
      simp only [Option.bind_some]
      rw [if_pos (by rw [strOfNums_size, strOfNums_size]; simp; omega), M.strOfNums_append, M.digs_big h]
def letT (p : Int) : List Int := if p = 0 then [] else [96 + p]
/-- A plate's text: its number, then its letter, if it has one. -/
def ptx (a b : Int) : List Int := M.digs a.toNat ++ letT b
theorem letter_all : ∀ n : Fin 27, n.val ≠ 0 → ((⟨#[97, 98, 99, 100, 101, 102, 103, 104, 105, 106, 107, 108, 109, 110, 111, 112, 113, 114, 115, 116, 117, 118, 119, 120, 121, 122]⟩ : ByteArray).extract (n.val - 1) n.val).data.toList = [UInt8.ofNat (96 + n.val)] := by decide +kernel
theorem isLetterT_eq {p : Int} (h0 : 0 ≤ p) (h : p ≤ 26) : spec_isLetter.f p (⟨#[]⟩ : ByteArray) = some (strOfNums (letT p)) := by
  unfold spec_isLetter.f letT
  by_cases c : p = 0
  · rw [if_pos c, if_pos c]; rfl
  · obtain ⟨n, rfl⟩ := Int.eq_ofNat_of_zero_le h0
    have e : wrap64 ((n : Int) - 1) = ((n - 1 : Nat) : Int) := by rw [M.w64 (by omega) (by omega)]; omega
    rw [if_neg c, if_neg c, e, if_pos (by omega), if_pos (by omega), if_pos (by omega)]
    congr 1
    apply ByteArray.ext
    apply Array.toList_inj.1
    have := letter_all ⟨n, by omega⟩ (by simpa using c)
    simp only [Int.toNat_natCast]
    rw [this]
    simp only [strOfNums, List.map_cons, List.map_nil]
    congr 2
theorem ptx_length {a b : Int} (h : M.plateB a b = true) : (ptx a b).length ≤ 22 := by
  have hp := M.plateB_iff.1 h
  have := M.digs_le20 (n := a.toNat) (by omega)
  unfold ptx letT
  rw [List.length_append]
  split <;> simp <;> omega
theorem isText_ev {a b : Int} (h : M.plateB a b = true) : Ev (fun k => spec_isText.f k a b) (strOfNums (ptx a b)) := by
  have hp := M.plateB_iff.1 h
  obtain ⟨n, rfl⟩ : ∃ n : Nat, a = n := ⟨a.toNat, by omega⟩
  have hl := ptx_length h
  unfold ptx at hl ⊢
  rw [Int.toNat_natCast] at hl ⊢
  unfold spec_isText.f
  refine Ev.bind (spec_l1Num_ev n (by omega)) (M.Ev_some fun k => ?_)
  rw [isLetterT_eq hp.2.2.1 hp.2.2.2]
  simp only [Option.bind_some]
  rw [if_pos (by rw [strOfNums_size, strOfNums_size, ← List.length_append]; omega), M.strOfNums_append]
theorem decDigits_eq : ∀ (n : Nat), Lib.decDigits n = (M.digs n).map (fun z => UInt8.ofNat z.toNat) := by
  intro n
  induction n using Nat.strongRecOn with
  | ind n ih =>
    by_cases h : n < 10
    · rw [Lib.decDigits, dif_pos h, M.digs_small h]
      simp only [List.map_cons, List.map_nil]
      rw [show (48 + (n : Int)).toNat = 48 + n by omega]
    · rw [Lib.decDigits, dif_neg h, M.digs_big h, ih (n / 10) (by omega)]
      simp only [List.map_append, List.map_cons, List.map_nil]
      rw [show (48 + ((n % 10 : Nat) : Int)).toNat = 48 + n % 10 by omega]
theorem digs_range : ∀ (n : Nat), ∀ z ∈ M.digs n, 48 ≤ z ∧ z ≤ 57 := by
  intro n
  induction n using Nat.strongRecOn with
  | ind n ih =>
    intro z hz
    by_cases h : n < 10
    · rw [M.digs_small h] at hz
      simp at hz
      omega
    · rw [M.digs_big h] at hz
      simp only [List.mem_append, List.mem_singleton] at hz
      rcases hz with hz | hz
      · exact ih (n / 10) (by omega) z hz
      · omega
theorem digs_pos : ∀ (n : Nat), 1 ≤ (M.digs n).length := by
  intro n
  by_cases h : n < 10
  · rw [M.digs_small h]; simp
  · rw [M.digs_big h]; simp
theorem digs_tight : ∀ (j n : Nat), n < 10 ^ (j + 1) → (M.digs n).length ≤ j + 1 := by
  intro j
  induction j with
  | zero => intro n h; rw [M.digs_small (by simpa using h)]; simp
  | succ j ih =>
    intro n h
    by_cases c : n < 10
    · rw [M.digs_small c]; simp
    · rw [M.digs_big c, List.length_append]
      have := ih (n / 10) (by rw [Nat.pow_succ] at h; exact Nat.div_lt_of_lt_mul (by rw [Nat.mul_comm]; exact h))
      simp
      omega
theorem digs_head : ∀ (n : Nat), 1 ≤ n → (M.digs n).getD 0 0 ≠ 48 := by
  intro n
  induction n using Nat.strongRecOn with
  | ind n ih =>
    intro h1
    by_cases h : n < 10
    · rw [M.digs_small h]
      simp
      omega
    · rw [M.digs_big h]
      have hp := digs_pos (n / 10)
      have h2 := ih (n / 10) (by omega) (by omega)
      rw [List.getD_eq_getElem?_getD, List.getElem?_append_left (by omega), ← List.getD_eq_getElem?_getD]
      exact h2
theorem bt_nums (xs : List Int) (hx : ∀ z ∈ xs, 0 ≤ z ∧ z ≤ 255) (i : Nat) (hi : i < xs.length) : bt (strOfNums xs) (i : Int) = xs.getD i 0 := by
  have hs : i < (strOfNums xs).size := by rw [strOfNums_size]; exact hi
  have hz := hx _ (List.getElem_mem hi)
  unfold bt
  rw [Int.toNat_natCast, dif_pos hs]
  have e : (strOfNums xs)[i] = UInt8.ofNat (xs[i]).toNat := by
    show (strOfNums xs).data[i]'hs = _
    rw [← Array.getElem_toList]
    simp only [strOfNums_data, List.getElem_map]
  rw [e, List.getD_eq_getElem?_getD, List.getElem?_eq_getElem hi]
  simp only [Option.getD_some]
  have : (UInt8.ofNat (xs[i]).toNat).toNat = (xs[i]).toNat := by simp; omega
  rw [this]
  omega
def dstep (a d : Int) : Int := 10 * a + (d - 48)
theorem digs_val : ∀ (n : Nat), (M.digs n).foldl dstep 0 = (n : Int) := by
  intro n
  induction n using Nat.strongRecOn with
  | ind n ih =>
    by_cases h : n < 10
    · rw [M.digs_small h]; simp [dstep]; omega
    · rw [M.digs_big h, List.foldl_append, ih (n / 10) (by omega)]
      simp only [List.foldl_cons, List.foldl_nil, dstep]
      omega
theorem l1Read_loop (xs : List Int) (hx : ∀ z ∈ xs, 48 ≤ z ∧ z ≤ 57) (h6 : xs.length ≤ 6) : ∀ (d i : Nat) (v : Int), i ≤ xs.length → xs.length - i = d → 0 ≤ v → v + 1 ≤ (10 ^ i : Nat) → Ev (fun k => spec_l1Read.l0 k (strOfNums xs) v (i : Int)) ((xs.drop i).foldl dstep v) := by
  intro d
  induction d with
  | zero =>
    intro i v hi hd h0 h1
    obtain rfl : i = xs.length := by omega
    refine M.Ev_succ (M.Ev_some fun k => ?_)
    simp only [spec_l1Read.l0]
    rw [if_neg (by rw [strOfNums_size]; omega), List.drop_length]
    rfl
  | succ d ih =>
    intro i v hi hd h0 h1
    have hlt : i < xs.length := by omega
    have hz := hx _ (List.getElem_mem hlt)
    have e : wrap64 ((i : Int) + 1) = ((i + 1 : Nat) : Int) := by rw [M.w64 (by omega) (by omega)]; omega
    have hp : (10 ^ i : Nat) ≤ 10 ^ 6 := Nat.pow_le_pow_right (by omega) (by omega)
    have hp1 : (10 ^ (i + 1) : Nat) = 10 * 10 ^ i := by rw [Nat.pow_succ, Nat.mul_comm]
    have hb : bt (strOfNums xs) (i : Int) = xs[i] := by
      rw [bt_nums xs (fun z h => by have := hx z h; omega) i hlt, List.getD_eq_getElem?_getD, List.getElem?_eq_getElem hlt]
      rfl
    have ev : wrap64 (wrap64 (10 * v) + (xs[i] - 48) % 256) = dstep v xs[i] := by
      unfold dstep
      rw [M.w64 (x := 10 * v) (by omega) (by omega), M.w64 (by omega) (by omega)]
      omega
    have hi2 := ih (i + 1) (dstep v xs[i]) (by omega) (by omega) (by unfold dstep; omega) (by unfold dstep; rw [hp1]; omega)
    refine M.Ev_succ ?_
    simp only [spec_l1Read.l0, strOfNums_size, show (i : Int) < (xs.length : Int) by omega, show (0 : Int) ≤ (i : Int) by omega, if_true, hb, show ¬ (xs[i] < 48) by omega, show ¬ (xs[i] > 57) by omega, if_false, ev, e]
    rw [List.drop_eq_getElem_cons hlt]
    exact hi2
theorem l1Read_total (s : ByteArray) (hs : s.size ≤ 6) : ∀ (d i : Nat) (v : Int), i ≤ s.size → s.size - i = d → ∃ r, Ev (fun k => spec_l1Read.l0 k s v (i : Int)) r := by
  intro d
  induction d with
  | zero =>
    intro i v hi hd
    refine ⟨v, M.Ev_succ (M.Ev_some fun k => ?_)⟩
    simp only [spec_l1Read.l0]
    rw [if_neg (by omega)]
  | succ d ih =>
    intro i v hi hd
    have e : wrap64 ((i : Int) + 1) = ((i + 1 : Nat) : Int) := by rw [M.w64 (by omega) (by omega)]; omega
    by_cases c1 : bt s (i : Int) < 48
    · refine ⟨-1, M.Ev_succ (M.Ev_some fun k => ?_)⟩
      simp only [spec_l1Read.l0, show (i : Int) < (s.size : Int) by omega, show (0 : Int) ≤ (i : Int) by omega, if_true, c1]
    · by_cases c2 : bt s (i : Int) > 57
      · refine ⟨-1, M.Ev_succ (M.Ev_some fun k => ?_)⟩
        simp only [spec_l1Read.l0, show (i : Int) < (s.size : Int) by omega, show (0 : Int) ≤ (i : Int) by omega, if_true, c1, c2, if_false]
      · obtain ⟨r, hr⟩ := ih (i + 1) (wrap64 (wrap64 (10 * v) + (bt s (i : Int) - 48) % 256)) (by omega) (by omega)
        refine ⟨r, M.Ev_succ ?_⟩
        simp only [spec_l1Read.l0, show (i : Int) < (s.size : Int) by omega, show (0 : Int) ≤ (i : Int) by omega, if_true, c1, c2, if_false, e]
        exact hr
theorem l1Read_any (s : ByteArray) (hs : s.size ≤ 1000000000000) : ∃ r, Ev (fun k => spec_l1Read.f k s) r := by
  unfold spec_l1Read.f
  simp only [spec_l1In_eq, Option.bind_some]
  by_cases c : (1 : Int) ≤ (s.size : Int) ∧ (s.size : Int) ≤ 6
  · obtain ⟨r, hr⟩ := l1Read_total s (by omega) s.size 0 0 (by omega) (by omega)
    simp only [decide_eq_true c, if_true, show (0 : Int) < (s.size : Int) by omega]
    by_cases c2 : bt s 0 = 48
    · by_cases c3 : (s.size : Int) > 1
      · simp only [c2, if_true, decide_eq_true c3]
        exact ⟨-1, M.Ev_succ (M.Ev_some fun k => by simp [spec_l1Read.j0])⟩
      · simp only [c2, if_true, decide_eq_false c3]
        exact ⟨r, M.Ev_succ (by simp only [spec_l1Read.j0, Bool.false_eq_true, if_false]; exact hr)⟩
    · simp only [c2, if_false]
      exact ⟨r, M.Ev_succ (by simp only [spec_l1Read.j0, Bool.false_eq_true, if_false]; exact hr)⟩
  · simp only [decide_eq_false c, Bool.false_eq_true, if_false]
    exact ⟨-1, M.Ev_succ (M.Ev_some fun k => by simp [spec_l1Read.j0])⟩
theorem l1Read_digs (n : Nat) (h1 : 1 ≤ n) (h : n ≤ 99999) : Ev (fun k => spec_l1Read.f k (strOfNums (M.digs n))) (n : Int) := by
  have hl := digs_tight 4 n (by omega)
  have hp := digs_pos n
  have hr := l1Read_loop (M.digs n) (digs_range n) (by omega) (M.digs n).length 0 0 (by omega) (by omega) (by omega) (by simp)
  rw [List.drop_zero, digs_val] at hr
  have hb : bt (strOfNums (M.digs n)) 0 = (M.digs n).getD 0 0 := bt_nums (M.digs n) (fun z h => by have := digs_range n z h; omega) 0 (by omega)
  have hh := digs_head n h1
  unfold spec_l1Read.f
  simp only [spec_l1In_eq, Option.bind_some, strOfNums_size, decide_eq_true (show (1 : Int) ≤ ((M.digs n).length : Int) ∧ ((M.digs n).length : Int) ≤ 6 by omega), if_true, show (0 : Int) < ((M.digs n).length : Int) by omega, hb, hh, if_false]
  exact M.Ev_succ (by simp only [spec_l1Read.j0, Bool.false_eq_true, if_false]; exact hr)
theorem parse_snoc : ∀ (L : List UInt8) (acc u : Nat) (c : UInt8), Lib.parseUint10 acc L = .ok u → 48 ≤ c.toNat → c.toNat ≤ 57 → u ≤ 100000000000000000 → Lib.parseUint10 acc (L ++ [c]) = .ok (u * 10 + (c.toNat - 48))
  | [], acc, u, c, h, h1, h2, h3 => by
    simp only [Lib.parseUint10] at h
    injection h with h
    subst h
    simp only [List.nil_append, Lib.parseUint10]
    rw [if_pos ⟨h1, h2⟩, if_neg (by omega), if_neg (by omega)]
  | x :: L, acc, u, c, h, h1, h2, h3 => by
    simp only [Lib.parseUint10, List.cons_append] at h ⊢
    split at h
    · rename_i q1
      rw [if_pos q1]
      split at h
      · cases h
      · rename_i q2
        rw [if_neg q2]
        split at h
        · cases h
        · rename_i q3
          rw [if_neg q3]
          exact parse_snoc L _ u c h h1 h2 h3
    · cases h
theorem u8_toNat (n : Nat) (h : n < 256) : (UInt8.ofNat n).toNat = n := by simp; omega
theorem parse_dec : ∀ (n : Nat), n ≤ 1000000000000000 → Lib.parseUint10 0 (Lib.decDigits n) = .ok n := by
  intro n
  induction n using Nat.strongRecOn with
  | ind n ih =>
    intro hn
    by_cases h : n < 10
    · rw [Lib.decDigits, dif_pos h]
      simp only [Lib.parseUint10]
      rw [u8_toNat _ (by omega), if_pos ⟨by omega, by omega⟩, if_neg (by omega), if_neg (by omega)]
      congr 1
      omega
    · rw [Lib.decDigits, dif_neg h, parse_snoc _ 0 (n / 10) _ (ih (n / 10) (by omega) (by omega)) (by rw [u8_toNat _ (by omega)]; omega) (by rw [u8_toNat _ (by omega)]; omega) (by omega), u8_toNat _ (by omega)]
      congr 1
      omega
theorem dec_range (n : Nat) : ∀ c ∈ Lib.decDigits n, 48 ≤ c.toNat ∧ c.toNat ≤ 57 := by
  intro c hc
  rw [decDigits_eq] at hc
  obtain ⟨z, hz, rfl⟩ := List.mem_map.1 hc
  have := digs_range n z hz
  rw [u8_toNat _ (by omega)]
  omega
theorem atoi_dec (n : Nat) (hn : n ≤ 1000000000000000) : Lib.atoiAll (Lib.decDigits n) = .ok (n : Int) := by
  have hp := parse_dec n hn
  have hr := dec_range n
  have h1 : 1 ≤ (Lib.decDigits n).length := by rw [decDigits_eq, List.length_map]; exact digs_pos n
  cases hd : Lib.decDigits n with
  | nil => rw [hd] at h1; simp at h1
  | cons c r =>
    rw [hd] at hp hr
    have hc := hr c (by simp)
    have n1 : ¬ (c.toNat = 43 ∨ c.toNat = 45) := by omega
    have n2 : ¬ c.toNat = 45 := by omega
    simp only [Lib.atoiAll, Lib.parseMag]
    rw [if_neg n1, if_neg (List.cons_ne_nil c r), hp]
    simp only [n2, not_false_eq_true, true_and, false_and, if_false]
    rw [if_neg (by omega)]
theorem nums_dec (n : Nat) : (strOfNums (M.digs n)).data.toList = Lib.decDigits n := by rw [strOfNums_data, decDigits_eq]
theorem readNumber_digs (n : Nat) (hn : n ≤ 1000000000000) : impl_readNumber.f (strOfNums (M.digs n)) = some ((n : Int), true) := by
  unfold impl_readNumber.f
  have := M.digs_le20 (n := n) (by omega)
  rw [if_pos (by rw [strOfNums_size]; omega), nums_dec, atoi_dec n (by omega)]
  have hi : Lib.itoa (n : Int) = Lib.decDigits n := by rw [Lib.itoa, if_neg (by omega), Int.toNat_natCast]
  simp only [hi, if_true]
theorem readNumber_any (x : ByteArray) (hx : x.size ≤ 1000000000000) : ∃ r, impl_readNumber.f x = some r ∧ (r = (0, false) ∨ r.2 = true ∧ Lib.itoa r.1 = x.data.toList) := by
  unfold impl_readNumber.f
  rw [if_pos (by omega)]
  cases h : Lib.atoiAll x.data.toList with
  | ok v =>
    simp only
    by_cases q : Lib.itoa v = x.data.toList
    · rw [if_pos q]; exact ⟨_, rfl, .inr ⟨rfl, q⟩⟩
    · rw [if_neg q]; exact ⟨_, rfl, .inl rfl⟩
  | _ => exact ⟨_, rfl, .inl rfl⟩
theorem bytes_eq {x y : ByteArray} (h : x.data.toList = y.data.toList) : x = y := ByteArray.ext (Array.toList_inj.1 h)
theorem nums_of_itoa {x : ByteArray} {v : Int} (h0 : 0 ≤ v) (h : Lib.itoa v = x.data.toList) : x = strOfNums (M.digs v.toNat) := by
  refine bytes_eq ?_
  rw [nums_dec, ← h, Lib.itoa, if_neg (by omega)]
theorem cut_last (s : ByteArray) (m : Nat) (h : s.size = m + 1) : s = s.extract 0 m ++ strOfNums [bt s (m : Int)] := by
  have hl : s.data.toList.length = m + 1 := by rw [Array.length_toList]; exact h
  refine bytes_eq ?_
  have hb := bt_range s (m : Int)
  have e : bt s (m : Int) = ((s.data.toList[m]'(by omega)).toNat : Int) := by
    unfold bt
    rw [Int.toNat_natCast, dif_pos (by omega)]
    rfl
  have e2 : UInt8.ofNat (bt s (m : Int)).toNat = s.data.toList[m]'(by omega) := by
    rw [e, Int.toNat_natCast]
    simp
  rw [ByteArray.data_append, Array.toList_append, ByteArray.data_extract, Array.toList_extract, strOfNums_data]
  simp only [List.map_cons, List.map_nil, e2, List.extract_eq_take_drop, List.drop_zero, Nat.sub_zero]
  have e3 : s.data.toList.take (m + 1) = s.data.toList.take m ++ [s.data.toList[m]'(by omega)] := by rw [List.take_add_one, List.getElem?_eq_getElem (by omega)]; rfl
  rw [← e3, List.take_of_length_le (by omega)]
theorem extract_nums (xs : List Int) (c : Int) : (strOfNums (xs ++ [c])).extract 0 xs.length = strOfNums xs := by
  refine bytes_eq ?_
  rw [ByteArray.data_extract, Array.toList_extract, strOfNums_data, strOfNums_data]
  simp [List.extract_eq_take_drop]
/-- s is the text of the plate (n, l). -/
def Spells (s : ByteArray) (n l : Int) : Prop := M.plateB n l = true ∧ s = strOfNums (ptx n l)
theorem toList_iff {x y : ByteArray} : x.toList = y.toList ↔ x = y := by
  constructor
  · intro h
    exact bytes_eq (by simpa [ByteArray.toList_eq] using h)
  · rintro rfl
    rfl
theorem j1_any (x : ByteArray) (n0 l : Int) (hx : x.size ≤ 1000000000000) (h0 : 0 ≤ l) : ∃ r, Ev (fun k => impl_parsePlate.j1 k x n0 l) r ∧ (r = (0, 0, false) ∨ ∃ n : Nat, r = ((n : Int), l, true) ∧ M.plateB n l = true ∧ x = strOfNums (M.digs n)) := by
  obtain ⟨r, h1, h2⟩ := readNumber_any x hx
  rcases h2 with rfl | ⟨h2, h3⟩
  · exact ⟨(0, 0, false), M.Ev_succ (M.Ev_some fun k => by simp [impl_parsePlate.j1, h1]), .inl rfl⟩
  · by_cases hp : M.plateB r.1 l = true
    · have hb := M.plateB_iff.1 hp
      refine ⟨(r.1, l, true), M.Ev_succ (M.Ev_some fun k => ?_), .inr ⟨r.1.toNat, ?_, ?_, nums_of_itoa (by omega) h3⟩⟩
      · simp only [impl_parsePlate.j1, h1, Option.bind_some, h2, if_true, impl_IsPlate_eq, hp]
      · rw [show ((r.1.toNat : Nat) : Int) = r.1 by omega]
      · rw [show ((r.1.toNat : Nat) : Int) = r.1 by omega]; exact hp
    · refine ⟨(0, 0, false), M.Ev_succ (M.Ev_some fun k => ?_), .inl rfl⟩
      simp only [impl_parsePlate.j1, h1, Option.bind_some, h2, if_true, impl_IsPlate_eq, hp, if_false]
      simp
theorem j1_digs (n : Nat) (n0 l : Int) (hp : M.plateB n l = true) : Ev (fun k => impl_parsePlate.j1 k (strOfNums (M.digs n)) n0 l) ((n : Int), l, true) := by
  have hb := M.plateB_iff.1 hp
  refine M.Ev_succ (M.Ev_some fun k => ?_)
  simp only [impl_parsePlate.j1, readNumber_digs n (by omega), Option.bind_some, if_true, impl_IsPlate_eq, hp]
theorem implParse_any (s : ByteArray) (hs : s.size ≤ 100000000) : ∃ r, Ev (fun k => impl_parsePlate.f k s) r ∧ (r = (0, 0, false) ∨ r.2.2 = true ∧ Spells s r.1 r.2.1) := by
  unfold impl_parsePlate.f
  by_cases h0 : s.toList = []
  · exact ⟨(0, 0, false), M.Ev_some fun k => by rw [if_pos h0], .inl rfl⟩
  · have hz : s.size ≠ 0 := by
      intro e
      apply h0
      rw [ByteArray.toList_eq]
      exact List.eq_nil_of_length_eq_zero (by rw [Array.length_toList]; exact e)
    obtain ⟨m, hm⟩ : ∃ m, s.size = m + 1 := ⟨s.size - 1, by omega⟩
    have e1 : wrap64 ((s.size : Int) - 1) = (m : Int) := by rw [M.w64 (by omega) (by omega)]; omega
    have hc := bt_range s (m : Int)
    have hcut := cut_last s m hm
    have hxs : (s.extract 0 m).size ≤ 1000000000000 := by rw [ByteArray.size_extract]; omega
    simp only [if_neg h0, e1, show (0 : Int) ≤ (m : Int) by omega, show (m : Int) < (s.size : Int) by omega, if_true]
    have plain : ∃ r, Ev (fun k => impl_parsePlate.j0 k s (bt s (m : Int)) false 0 0) r ∧ (r = (0, 0, false) ∨ r.2.2 = true ∧ Spells s r.1 r.2.1) := by
      obtain ⟨r, h1, h2⟩ := j1_any s 0 0 (by omega) (by omega)
      refine ⟨r, M.Ev_succ (by simp only [impl_parsePlate.j0, Bool.false_eq_true, if_false]; exact h1), ?_⟩
      rcases h2 with h2 | ⟨n, rfl, h3, h4⟩
      · exact .inl h2
      · refine .inr ⟨rfl, h3, ?_⟩
        simp only [ptx, letT, if_true, List.append_nil, Int.toNat_natCast]
        exact h4
    by_cases c1 : bt s (m : Int) ≥ 97
    · simp only [c1, if_true]
      by_cases c2 : bt s (m : Int) ≤ 122
      · simp only [decide_eq_true c2]
        have e2 : (bt s (m : Int) - 97) % 256 + 1 = bt s (m : Int) - 96 := by omega
        obtain ⟨r, h1, h2⟩ := j1_any (s.extract 0 m) 0 (bt s (m : Int) - 96) hxs (by omega)
        refine ⟨r, M.Ev_succ ?_, ?_⟩
        · simp only [impl_parsePlate.j0, if_true, e1, show (0 : Int) ≤ (m : Int) by omega, show (m : Int) ≤ (s.size : Int) by omega, Int.toNat_natCast, e2]
          exact h1
        · rcases h2 with h2 | ⟨n, rfl, h3, h4⟩
          · exact .inl h2
          · refine .inr ⟨rfl, h3, ?_⟩
            simp only [ptx, letT, Int.toNat_natCast]
            rw [if_neg (by omega), ← M.strOfNums_append, ← h4, show 96 + (bt s (m : Int) - 96) = bt s (m : Int) by omega]
            exact hcut
      · simp only [decide_eq_false c2]
        exact plain
    · simp only [c1, if_false]
      exact plain
theorem ptx_range {n l : Int} (h : M.plateB n l = true) : ∀ z ∈ ptx n l, 0 ≤ z ∧ z ≤ 255 := by
  have hb := M.plateB_iff.1 h
  intro z hz
  unfold ptx letT at hz
  rw [List.mem_append] at hz
  rcases hz with hz | hz
  · have := digs_range n.toNat z hz
    omega
  · split at hz
    · cases hz
    · simp at hz
      omega
theorem implParse_spells {s : ByteArray} {n l : Int} (h : Spells s n l) : Ev (fun k => impl_parsePlate.f k s) (n, l, true) := by
  obtain ⟨hp, rfl⟩ := h
  have hb := M.plateB_iff.1 hp
  obtain ⟨n, rfl⟩ : ∃ m : Nat, n = m := ⟨n.toNat, by omega⟩
  have hr := ptx_range hp
  have hl := ptx_length hp
  have hd := digs_pos n
  have hsz : (strOfNums (ptx n l)).size = (ptx n l).length := strOfNums_size _
  have h1 : 1 ≤ (ptx n l).length := by unfold ptx; rw [List.length_append, Int.toNat_natCast]; omega
  obtain ⟨m, hm⟩ : ∃ m, (ptx n l).length = m + 1 := ⟨(ptx n l).length - 1, by omega⟩
  have h0 : ¬ (strOfNums (ptx n l)).toList = [] := by
    rw [ByteArray.toList_eq, strOfNums_data]
    intro e
    have := congrArg List.length e
    rw [List.length_map, hm] at this
    simp at this
  have e1 : wrap64 (((strOfNums (ptx n l)).size : Int) - 1) = (m : Int) := by rw [hsz, M.w64 (by omega) (by omega)]; omega
  have hbt := bt_nums (ptx n l) hr m (by omega)
  unfold impl_parsePlate.f
  simp only [if_neg h0, e1, show (0 : Int) ≤ (m : Int) by omega, show (m : Int) < ((strOfNums (ptx n l)).size : Int) by rw [hsz]; omega, if_true, hbt]
  by_cases c : l = 0
  · subst c
    have hx : ptx n 0 = M.digs n := by simp [ptx, letT]
    have hz : (ptx n 0).getD m 0 ≤ 57 := by
      rw [hx] at hm ⊢
      rw [List.getD_eq_getElem?_getD, List.getElem?_eq_getElem (by omega)]
      exact (digs_range n _ (List.getElem_mem (by omega))).2
    simp only [show ¬ ((ptx n 0).getD m 0 ≥ 97) by omega, if_false]
    refine M.Ev_succ ?_
    simp only [impl_parsePlate.j0, Bool.false_eq_true, if_false]
    rw [hx]
    exact j1_digs n 0 0 hp
  · have hx : ptx n l = M.digs n ++ [96 + l] := by simp [ptx, letT, c]
    have hmd : m = (M.digs n).length := by rw [hx, List.length_append] at hm; simp at hm; omega
    have hz : (ptx n l).getD m 0 = 96 + l := by
      rw [hx, hmd, List.getD_eq_getElem?_getD, List.getElem?_append_right (by omega)]
      simp
    simp only [hz, show 96 + l ≥ 97 by omega, if_true, decide_eq_true (show 96 + l ≤ 122 by omega)]
    refine M.Ev_succ ?_
    have e2 : (96 + l - 97) % 256 + 1 = l := by omega
    simp only [impl_parsePlate.j0, if_true, e1, show (0 : Int) ≤ (m : Int) by omega, show (m : Int) ≤ ((strOfNums (ptx n l)).size : Int) by rw [hsz]; omega, Int.toNat_natCast, e2]
    rw [hx, hmd, extract_nums]
    exact j1_digs n 0 l hp
theorem specParse_any (s : ByteArray) (hs : s.size ≤ 100000000) : ∃ r : Int × Int × Bool, Ev (fun k => spec_isParse.f k s) r ∧ (r.2.2 = true → Spells s r.1 r.2.1) := by
  unfold spec_isParse.f
  simp only [spec_l1In_eq, Option.bind_some]
  by_cases c : (1 : Int) ≤ (s.size : Int) ∧ (s.size : Int) ≤ 5
  · obtain ⟨m, hm⟩ : ∃ m, s.size = m + 1 := ⟨s.size - 1, by omega⟩
    have e1 : wrap64 ((s.size : Int) - 1) = (m : Int) := by rw [M.w64 (by omega) (by omega)]; omega
    have hc := bt_range s (m : Int)
    have e2 : wrap64 (wrap64 (wrap64 (bt s (m : Int)) - 97) + 1) = bt s (m : Int) - 96 := by rw [M.w64 (x := bt s (m : Int)) (by omega) (by omega), M.w64 (x := bt s (m : Int) - 97) (by omega) (by omega), M.w64 (by omega) (by omega)]; omega
    obtain ⟨v0, hv0⟩ := l1Read_any s (by omega)
    obtain ⟨v1, hv1⟩ := l1Read_any (s.extract 0 m) (by rw [ByteArray.size_extract]; omega)
    simp only [decide_eq_true c, if_true, e1, show (0 : Int) ≤ (m : Int) by omega, show (m : Int) < (s.size : Int) by omega, e2, show (m : Int) ≤ (s.size : Int) by omega, Int.toNat_natCast]
    have done : ∀ (v l : Int) (x : ByteArray), Ev (fun k => spec_l1Read.f k x) v → ∃ r : Int × Int × Bool, Ev (fun k => (spec_l1Read.f k x).bind fun t => (spec_isPlate.f t l).bind fun t1 => (if t1 = true then ((spec_isText.f k t l).bind fun t2 => (some (t, l, (t2.toList == s.toList)))) else (some (t, l, false)))) r ∧ (r.2.2 = true → Spells s r.1 r.2.1) := by
      intro v l x hv
      by_cases hp : M.plateB v l = true
      · refine ⟨(v, l, ((strOfNums (ptx v l)).toList == s.toList)), Ev.bind hv ?_, fun h => ⟨hp, ?_⟩⟩
        · simp only [spec_isPlate_eq, hp, Option.bind_some, if_true]
          exact Ev.bind (isText_ev hp) (M.Ev_some fun k => rfl)
        · exact (toList_iff.1 (by simpa using h)).symm
      · refine ⟨(v, l, false), Ev.bind hv (M.Ev_some fun k => ?_), fun h => by cases h⟩
        simp only [spec_isPlate_eq, hp, Option.bind_some]
        simp
    by_cases c2 : (1 : Int) ≤ bt s (m : Int) - 96 ∧ bt s (m : Int) - 96 ≤ 26
    · obtain ⟨r, h1, h2⟩ := done v1 (bt s (m : Int) - 96) (s.extract 0 m) hv1
      refine ⟨r, Ev.bind hv0 ?_, h2⟩
      simp only [decide_eq_true c2, if_true]
      exact h1
    · have ev : Ev (fun k => (spec_l1Read.f k s).bind fun t => (spec_isPlate.f t 0).bind fun t1 => (if t1 = true then ((spec_isText.f k t 0).bind fun t2 => (some (t, 0, (t2.toList == s.toList)))) else (some (t, 0, false)))) (done v0 0 s hv0).choose := (done v0 0 s hv0).choose_spec.1
      refine ⟨(done v0 0 s hv0).choose, ?_, (done v0 0 s hv0).choose_spec.2⟩
      simp only [decide_eq_false c2, Bool.false_eq_true, if_false]
      exact ev
  · refine ⟨(0, 0, false), M.Ev_some fun k => ?_, fun h => by cases h⟩
    simp only [decide_eq_false c]
    simp
theorem specParse_spells {s : ByteArray} {n l : Int} (h : Spells s n l) : Ev (fun k => spec_isParse.f k s) (n, l, true) := by
  obtain ⟨hp, rfl⟩ := h
  have hb := M.plateB_iff.1 hp
  obtain ⟨n, rfl⟩ : ∃ m : Nat, n = m := ⟨n.toNat, by omega⟩
  have hr := ptx_range hp
  have hd := digs_pos n
  have hd4 := digs_tight 3 n (by omega)
  have hsz : (strOfNums (ptx n l)).size = (ptx n l).length := strOfNums_size _
  have h1 : 1 ≤ (ptx n l).length ∧ (ptx n l).length ≤ 5 := by
    unfold ptx letT
    rw [List.length_append, Int.toNat_natCast]
    split <;> simp <;> omega
  obtain ⟨m, hm⟩ : ∃ m, (ptx n l).length = m + 1 := ⟨(ptx n l).length - 1, by omega⟩
  have e1 : wrap64 (((strOfNums (ptx n l)).size : Int) - 1) = (m : Int) := by rw [hsz, M.w64 (by omega) (by omega)]; omega
  have hbt := bt_nums (ptx n l) hr m (by omega)
  unfold spec_isParse.f
  simp only [spec_l1In_eq, Option.bind_some, decide_eq_true (show (1 : Int) ≤ ((strOfNums (ptx n l)).size : Int) ∧ ((strOfNums (ptx n l)).size : Int) ≤ 5 by rw [hsz]; omega), e1, show (0 : Int) ≤ (m : Int) by omega, show (m : Int) < ((strOfNums (ptx n l)).size : Int) by rw [hsz]; omega, show (m : Int) ≤ ((strOfNums (ptx n l)).size : Int) by rw [hsz]; omega, if_true, hbt, Int.toNat_natCast]
  by_cases c : l = 0
  · subst c
    have hx : ptx n 0 = M.digs n := by simp [ptx, letT]
    have hz : 48 ≤ (ptx n 0).getD m 0 ∧ (ptx n 0).getD m 0 ≤ 57 := by
      rw [hx] at hm ⊢
      rw [List.getD_eq_getElem?_getD, List.getElem?_eq_getElem (by omega)]
      exact digs_range n _ (List.getElem_mem (by omega))
    have e2 : wrap64 (wrap64 (wrap64 ((ptx n 0).getD m 0) - 97) + 1) = (ptx n 0).getD m 0 - 96 := by rw [M.w64 (x := (ptx n 0).getD m 0) (by omega) (by omega), M.w64 (x := (ptx n 0).getD m 0 - 97) (by omega) (by omega), M.w64 (by omega) (by omega)]; omega
    have hv : Ev (fun k => spec_l1Read.f k (strOfNums (ptx n 0))) (n : Int) := by rw [hx]; exact l1Read_digs n (by omega) (by omega)
    refine Ev.bind hv ?_
    simp only [e2, decide_eq_false (show ¬ ((1 : Int) ≤ (ptx n 0).getD m 0 - 96 ∧ (ptx n 0).getD m 0 - 96 ≤ 26) by omega), Bool.false_eq_true, if_false, spec_isPlate_eq, hp, Option.bind_some, if_true]
    refine Ev.bind (isText_ev hp) (M.Ev_some fun k => ?_)
    simp
  · have hx : ptx n l = M.digs n ++ [96 + l] := by simp [ptx, letT, c]
    have hmd : m = (M.digs n).length := by rw [hx, List.length_append] at hm; simp at hm; omega
    have hz : (ptx n l).getD m 0 = 96 + l := by
      rw [hx, hmd, List.getD_eq_getElem?_getD, List.getElem?_append_right (by omega)]
      simp
    have e2 : wrap64 (wrap64 (wrap64 (96 + l) - 97) + 1) = l := by rw [M.w64 (x := 96 + l) (by omega) (by omega), M.w64 (x := 96 + l - 97) (by omega) (by omega), M.w64 (by omega) (by omega)]; omega
    obtain ⟨v0, hv0⟩ := l1Read_any (strOfNums (ptx n l)) (by rw [hsz]; omega)
    have hex : (strOfNums (ptx n l)).extract 0 m = strOfNums (M.digs n) := by rw [hx, hmd, extract_nums]
    refine Ev.bind hv0 ?_
    simp only [hz, e2, decide_eq_true (show (1 : Int) ≤ l ∧ l ≤ 26 by omega), if_true, hex]
    refine Ev.bind (l1Read_digs n (by omega) (by omega)) ?_
    simp only [spec_isPlate_eq, hp, Option.bind_some, if_true]
    refine Ev.bind (isText_ev hp) (M.Ev_some fun k => ?_)
    simp
theorem itoa_eq (n : Nat) (h : n ≤ 9223372036854775807) : strconv_Itoa_63.f (n : Int) = some (strOfNums (M.digs n)) := by
  unfold strconv_Itoa_63.f strOfNums Lib.itoa
  rw [if_pos ⟨by omega, by omega⟩, if_neg (by omega), Int.toNat_natCast, decDigits_eq]
theorem plateText_eq {a b : Int} (h : M.plateB a b = true) : impl_plateText.f a b = some (strOfNums (ptx a b)) := by
  have hp := M.plateB_iff.1 h
  obtain ⟨n, rfl⟩ : ∃ n : Nat, a = n := ⟨a.toNat, by omega⟩
  have hl := ptx_length h
  unfold ptx letT at hl ⊢
  rw [Int.toNat_natCast] at hl ⊢
  unfold impl_plateText.f
  rw [itoa_eq n (by omega)]
  simp only [Option.bind_some]
  by_cases c : b = 0
  · rw [if_pos c, if_neg (by omega), List.append_nil]
  · rw [if_neg c] at hl
    have w1 : wrap64 (wrap64 (97 + b) - 1) % 256 = 96 + b := by rw [M.w64 (x := 97 + b) (by omega) (by omega), M.w64 (by omega) (by omega)]; omega
    rw [if_neg c, if_pos (by omega), w1, if_pos (by rw [strOfNums_size, strOfNums_size, ← List.length_append]; omega), M.strOfNums_append]
def ptn (l : List S25) (i : Nat) : List Int := ptx (pn l i) (pl l i)
/-- The first i plates' texts, joined by commas. -/
def pacc (l : List S25) : Nat → List Int
  | 0 => []
  | i + 1 => (if i = 0 then [] else pacc l i ++ [44]) ++ ptn l i
theorem pacc_le (l : List S25) (hg : Good l) : ∀ i, i ≤ l.length → (pacc l i).length ≤ 23 * i
  | 0, _ => by simp [pacc]
  | i + 1, h => by
    have h1 := pacc_le l hg i (by omega)
    have h2 : (ptn l i).length ≤ 22 := ptx_length (hg.2.2.1 i (by omega))
    simp only [pacc, List.length_append]
    split
    · simp; omega
    · simp; omega
theorem isTexts_loop (l : List S25) (hg : Good l) : ∀ (d i : Nat), i ≤ l.length → l.length - i = d → Ev (fun k => spec_isTexts.l0 k (strOfNums (pacc l i)) l (l.length : Int) (i : Int)) (strOfNums (pacc l l.length)) := by
  have hl60 := hg.2.1
  intro d
  induction d with
  | zero =>
    intro i hi hd
    obtain rfl : i = l.length := by omega
    refine M.Ev_succ (M.Ev_some fun k => ?_)
    simp only [spec_isTexts.l0]
    rw [if_neg (by omega)]
  | succ d ih =>
    intro i hi hd
    have e : wrap64 ((i : Int) + 1) = ((i + 1 : Nat) : Int) := by rw [M.w64 (by omega) (by omega)]; omega
    have ht := isText_ev (hg.2.2.1 i (by omega))
    have hla := pacc_le l hg i (by omega)
    have hlt : (ptx (pn l i) (pl l i)).length ≤ 22 := ptx_length (hg.2.2.1 i (by omega))
    have h1 := ih (i + 1) (by omega) (by omega)
    refine M.Ev_succ ?_
    simp only [spec_isTexts.l0, show (i : Int) < (l.length : Int) by omega, show (0 : Int) ≤ (i : Int) by omega, if_true]
    by_cases h0 : i = 0
    · subst h0
      simp only [show ¬ (((0 : Nat) : Int) > 0) by omega, if_false, e]
      refine Ev.bind (show Ev (fun k => spec_isText.f k (rd_T25 l ((0 : Nat) : Int)).f0 (rd_T25 l ((0 : Nat) : Int)).f1) _ from ht) ?_
      have hs : (strOfNums (pacc l 0)).size + (strOfNums (ptx (pn l 0) (pl l 0))).size ≤ 9223372036854775807 := by rw [strOfNums_size, strOfNums_size]; omega
      simp only [hs, if_true]
      rw [M.strOfNums_append]
      exact h1
    · have hs1 : (strOfNums (pacc l i)).size + 1 ≤ 9223372036854775807 := by rw [strOfNums_size]; omega
      simp only [show ((i : Int) > 0) by omega, hs1, if_true, e]
      refine Ev.bind (show Ev (fun k => spec_isText.f k (rd_T25 l (i : Int)).f0 (rd_T25 l (i : Int)).f1) _ from ht) ?_
      have e44 : (⟨#[44]⟩ : ByteArray) = strOfNums [44] := rfl
      have hs : (strOfNums (pacc l i) ++ (⟨#[44]⟩ : ByteArray)).size + (strOfNums (ptx (pn l i) (pl l i))).size ≤ 9223372036854775807 := by rw [e44, M.strOfNums_append, strOfNums_size, strOfNums_size, List.length_append]; simp; omega
      simp only [hs, if_true]
      rw [e44, M.strOfNums_append, M.strOfNums_append]
      have hp : pacc l (i + 1) = pacc l i ++ [44] ++ ptx (pn l i) (pl l i) := by simp only [pacc, if_neg h0, ptn]
      rw [← hp]
      exact h1
def partsAt (l : List S25) (n i : Nat) : List ByteArray := (List.range n).map (fun j => if j < i then strOfNums (ptn l j) else (⟨#[]⟩ : ByteArray))
theorem partsAt_length (l : List S25) (n i : Nat) : (partsAt l n i).length = n := by simp [partsAt]
theorem partsAt_zero (l : List S25) (n : Nat) : List.replicate n (⟨#[]⟩ : ByteArray) = partsAt l n 0 := by
  apply List.ext_getElem
  · simp [partsAt]
  · intro j h1 h2
    simp [partsAt]
theorem partsAt_set (l : List S25) (n i : Nat) : (partsAt l n i).set i (strOfNums (ptn l i)) = partsAt l n (i + 1) := by
  apply List.ext_getElem
  · simp [partsAt]
  · intro j h1 h2
    simp only [List.getElem_set, partsAt, List.getElem_map, List.getElem_range]
    by_cases c : i = j
    · subst c
      rw [if_pos rfl, if_pos (by omega)]
    · rw [if_neg c]
      by_cases c2 : j < i
      · rw [if_pos c2, if_pos (by omega)]
      · rw [if_neg c2, if_neg (by omega)]
theorem join_snoc (xs : List (List UInt8)) (x sep : List UInt8) : Lib.join (xs ++ [x]) sep = (if xs = [] then [] else Lib.join xs sep ++ sep) ++ x := by
  cases xs with
  | nil => simp [Lib.join_one]
  | cons y ys =>
    rw [List.cons_append, Lib.join_cons, Lib.join_cons, if_neg (by simp)]
    simp [Lib.joinTail]
theorem join_parts (l : List S25) (n : Nat) : ∀ i, Lib.join (((List.range i).map (fun j => strOfNums (ptn l j))).map (·.data.toList)) [44] = (pacc l i).map (fun z => UInt8.ofNat z.toNat)
  | 0 => rfl
  | i + 1 => by
    rw [List.range_succ, List.map_append, List.map_append, List.map_cons, List.map_nil, List.map_cons, List.map_nil, join_snoc, join_parts l n i]
    simp only [pacc]
    cases i with
    | zero => simp [strOfNums]
    | succ i => simp [strOfNums]
theorem PlatesText_loop (l : List S25) (hg : Good l) : ∀ (d i : Nat), i ≤ l.length → l.length - i = d → Ev (fun k => impl_PlatesText.l0 k (partsAt l l.length i) l (l.length : Int) (i : Int)) (strOfNums (pacc l l.length), true) := by
  have hl60 := hg.2.1
  intro d
  induction d with
  | zero =>
    intro i hi hd
    obtain rfl : i = l.length := by omega
    have hall : partsAt l l.length l.length = (List.range l.length).map (fun j => strOfNums (ptn l j)) := by
      apply List.map_congr_left
      intro j hj
      rw [if_pos (by simpa using hj)]
    have hj := join_parts l l.length l.length
    have hla := pacc_le l hg l.length (by omega)
    refine M.Ev_succ (M.Ev_some fun k => ?_)
    simp only [impl_PlatesText.l0]
    rw [if_neg (by omega), hall]
    unfold strings_Join.f
    rw [show (⟨#[44]⟩ : ByteArray).data.toList = [44] from rfl, hj, if_pos ⟨by simp; omega, by rw [List.length_map]; omega⟩]
    rfl
  | succ d ih =>
    intro i hi hd
    have e : wrap64 ((i : Int) + 1) = ((i + 1 : Nat) : Int) := by rw [M.w64 (by omega) (by omega)]; omega
    have h1 := ih (i + 1) (by omega) (by omega)
    have ht : impl_plateText.f (rd_T25 l (i : Int)).f0 (rd_T25 l (i : Int)).f1 = some (strOfNums (ptn l i)) := plateText_eq (hg.2.2.1 i (by omega))
    refine M.Ev_succ ?_
    simp only [impl_PlatesText.l0, show (i : Int) < (l.length : Int) by omega, show (0 : Int) ≤ (i : Int) by omega, if_true, ht, Option.bind_some, partsAt_length, e, Int.toNat_natCast, partsAt_set]
    exact h1
noncomputable def ptR (l : List S25) : ByteArray × Bool := if Good l then (strOfNums (pacc l l.length), true) else (⟨#[]⟩, false)
/-- PlatesText: both join the plates' texts by commas; what that is. -/
theorem PlatesText_both (l : List S25) (hl : l.length ≤ 1000000000000) : Ev (fun k => spec_PlatesText.f k l) (ptR l) ∧ Ev (fun k => impl_PlatesText.f k l) (ptR l) := by
  obtain ⟨g, h1, h2, h3⟩ := good_both l (by omega)
  unfold spec_PlatesText.f impl_PlatesText.f spec_isTexts.f ptR
  cases g with
  | false =>
    rw [if_neg (fun z => by simpa using h3.2 z)]
    exact ⟨Ev.bind h1 (M.Ev_some fun k => by simp), Ev.bind h2 (M.Ev_some fun k => by simp)⟩
  | true =>
    have hg : Good l := h3.1 rfl
    have hl60 := hg.2.1
    rw [if_pos hg]
    refine ⟨Ev.bind h1 ?_, Ev.bind h2 ?_⟩
    · simp only [if_true]
      exact Ev.bind (isTexts_loop l hg l.length 0 (by omega) (by omega)) (M.Ev_some fun k => rfl)
    · simp only [if_true, show (0 : Int) ≤ (l.length : Int) by omega, Int.toNat_natCast, show l.length ≤ 17592186044416 by omega, partsAt_zero l]
      exact PlatesText_loop l hg l.length 0 (by omega) (by omega)
def ptB (x : S25) : ByteArray := strOfNums (ptx x.f0 x.f1)
/-- A plate's text has no comma. -/
theorem ptx_plain {n l : Int} (h : M.plateB n l = true) : ∀ z ∈ ptx n l, 48 ≤ z ∧ z ≤ 122 := by
  have hb := M.plateB_iff.1 h
  intro z hz
  unfold ptx letT at hz
  rw [List.mem_append] at hz
  rcases hz with hz | hz
  · have := digs_range n.toNat z hz
    omega
  · split at hz
    · cases hz
    · simp at hz
      omega
theorem sp_none : ∀ (x cur : List UInt8), (∀ z ∈ x, z ≠ 44) → sp cur x = [cur ++ x]
  | [], cur, _ => by simp [sp]
  | c :: x, cur, h => by
    simp only [sp]
    rw [if_neg (h c (by simp)), sp_none x (cur ++ [c]) (fun z hz => h z (by simp [hz]))]
    simp
theorem sp_snoc : ∀ (l cur x : List UInt8), sp cur (l ++ 44 :: x) = sp cur l ++ sp [] x
  | [], cur, x => by simp [sp]
  | c :: l, cur, x => by
    simp only [List.cons_append, sp]
    split
    · rw [sp_snoc l [] x]; rfl
    · exact sp_snoc l (cur ++ [c]) x
theorem sp_cons : ∀ (l cur : List UInt8), ∃ y ys, sp cur l = y :: ys
  | [], cur => ⟨_, _, rfl⟩
  | c :: l, cur => by
    simp only [sp]
    split
    · exact ⟨_, _, rfl⟩
    · exact sp_cons l _
/-- Joined by commas again, the pieces are the text. -/
theorem join_sp : ∀ (l cur : List UInt8), Lib.join (sp cur l) [44] = cur ++ l
  | [], cur => by simp [sp, Lib.join_one]
  | c :: l, cur => by
    simp only [sp]
    by_cases h : c = 44
    · rw [if_pos h, h, Lib.join_cons]
      have ih := join_sp l []
      obtain ⟨y, ys, e⟩ := sp_cons l []
      rw [e, Lib.join_cons] at ih
      rw [e]
      have : Lib.joinTail [44] (y :: ys) = [44] ++ (y ++ Lib.joinTail [44] ys) := by simp [Lib.joinTail]
      rw [this, ih]
      simp
    · rw [if_neg h, join_sp l (cur ++ [c])]
      simp
theorem u44 : UInt8.ofNat (44 : Int).toNat = 44 := rfl
theorem sp_pacc (l : List S25) (hg : Good l) : ∀ i, i + 1 ≤ l.length → sp [] ((pacc l (i + 1)).map (fun n => UInt8.ofNat n.toNat)) = (List.range (i + 1)).map (fun j => (ptn l j).map (fun n => UInt8.ofNat n.toNat)) := by
  have hno : ∀ j, j < l.length → ∀ z ∈ (ptn l j).map (fun n => UInt8.ofNat n.toNat), z ≠ 44 := by
    intro j hj z hz
    obtain ⟨n, hn, rfl⟩ := List.mem_map.1 hz
    have := ptx_plain (hg.2.2.1 j hj) n hn
    intro e
    have e2 := congrArg UInt8.toNat e
    rw [UInt8.toNat_ofNat', show (44 : UInt8).toNat = 44 from rfl] at e2
    omega
  intro i
  induction i with
  | zero =>
    intro h
    rw [show pacc l (0 + 1) = ptn l 0 by simp [pacc], sp_none _ _ (hno 0 (by omega))]
    rfl
  | succ i ih =>
    intro h
    have e : pacc l (i + 1 + 1) = pacc l (i + 1) ++ 44 :: ptn l (i + 1) := by
      rw [pacc, if_neg (by omega), List.append_assoc, List.singleton_append]
    rw [e, List.map_append, List.map_cons, u44, sp_snoc, ih (by omega), sp_none _ _ (hno (i + 1) (by omega)), List.range_succ (n := i + 1), List.map_append]
    rfl
theorem texts_eq (l : List S25) : (List.range l.length).map (fun j => strOfNums (ptn l j)) = l.map ptB := by
  apply List.ext_getElem
  · simp
  · intro j h1 h2
    simp only [List.getElem_map, List.getElem_range, ptn, ptB, pn, pl]
    rw [rdT_get (by simpa using h2)]
/-- Cut at the commas, the text of plates is their texts. -/
theorem split_texts (l : List S25) (hg : Good l) : sp [] (strOfNums (pacc l l.length)).data.toList = (l.map ptB).map (·.data.toList) := by
  obtain ⟨n, hn⟩ : ∃ n, l.length = n + 1 := ⟨l.length - 1, by have := hg.1; omega⟩
  rw [← texts_eq, hn, strOfNums_data, sp_pacc l hg n (by omega), List.map_map]
  apply List.map_congr_left
  intro j _
  simp only [Function.comp]
  rw [strOfNums_data]
theorem join_texts (l : List S25) (s : ByteArray) (h : sp [] s.data.toList = (l.map ptB).map (·.data.toList)) : s = strOfNums (pacc l l.length) := by
  have h1 := join_sp s.data.toList []
  rw [h, ← texts_eq, join_parts l l.length l.length, List.nil_append] at h1
  apply bytes_eq
  rw [strOfNums_data]
  exact h1.symm
theorem impl_words (l : List S25) (hg : Good l) : ∀ (d i : Nat), i ≤ l.length → l.length - i = d → Ev (fun k => impl_ParsePlates.l0 k (l.take i) (l.map ptB) (((l.map ptB).length : Nat) : Int) (i : Int)) (l, true) := by
  have hl60 := hg.2.1
  have hml : (l.map ptB).length = l.length := List.length_map _
  intro d
  induction d with
  | zero =>
    intro i hi hd
    obtain rfl : i = l.length := by omega
    obtain ⟨g, h1, h2, h3⟩ := good_both l (by omega)
    have : g = true := h3.2 hg
    subst this
    refine M.Ev_succ ?_
    simp only [impl_ParsePlates.l0, hml, show ¬ ((l.length : Int) < (l.length : Int)) by omega, if_false, List.take_length]
    exact Ev.bind h2 (M.Ev_some fun k => rfl)
  | succ d ih =>
    intro i hi hd
    have hlt : i < l.length := by omega
    have e : wrap64 ((i : Int) + 1) = ((i + 1 : Nat) : Int) := by rw [M.w64 (by omega) (by omega)]; omega
    have hrd : rdOf ByteArray.empty (l.map ptB) (i : Int) = ptB l[i] := by
      unfold rdOf
      rw [Int.toNat_natCast, List.getD_eq_getElem?_getD, List.getElem?_eq_getElem (by omega), List.getElem_map]
      rfl
    have hp := hg.2.2.1 i hlt
    unfold pn pl at hp
    rw [rdT_get hlt] at hp
    have hs : Spells (ptB l[i]) l[i].f0 l[i].f1 := ⟨hp, rfl⟩
    have ih2 := ih (i + 1) (by omega) (by omega)
    rw [List.take_succ_eq_append_getElem hlt] at ih2
    rw [hml] at ih2 ⊢
    refine M.Ev_succ ?_
    simp only [impl_ParsePlates.l0, hml, show (i : Int) < (l.length : Int) by omega, show (0 : Int) ≤ (i : Int) by omega, if_true, hrd]
    refine Ev.bind (implParse_spells hs) ?_
    simp only [if_true, show (l.take i).length < 8796093022208 by rw [List.length_take]; omega, e]
    exact ih2
/-- The plates of a list are read back from their text. -/
theorem parse_texts (l : List S25) (hg : Good l) : Ev (fun k => impl_ParsePlates.f k (strOfNums (pacc l l.length))) (l, true) := by
  have hs := pacc_le l hg l.length (Nat.le_refl _)
  have hl60 := hg.2.1
  obtain ⟨V, h1, h2, h3⟩ := l1Split_ev (strOfNums (pacc l l.length)) (by rw [strOfNums_size]; omega)
  obtain rfl : V = l.map ptB := map_data_inj (h3.trans (split_texts l hg))
  have h := impl_words l hg l.length 0 (by omega) (by omega)
  unfold impl_ParsePlates.f
  simp only [h1, Option.bind_some]
  exact h
theorem spells_size {s : ByteArray} {n l : Int} (h : Spells s n l) : s.size ≤ 5 := by
  obtain ⟨hp, rfl⟩ := h
  have hb := M.plateB_iff.1 hp
  have hd4 := digs_tight 3 n.toNat (by omega)
  rw [strOfNums_size]
  unfold ptx letT
  rw [List.length_append]
  split <;> simp <;> omega
theorem words_ev (V : List ByteArray) (hV : V.length ≤ 1000000000) (hsz : ∀ x ∈ V, x.size ≤ 100000000) : ∀ (d i : Nat) (acc : List S25), i ≤ V.length → V.length - i = d → acc.length ≤ i → ∃ r : List S25 × Bool, Ev (fun k => spec_ParsePlates.l0 k acc V (V.length : Int) (i : Int)) r ∧ Ev (fun k => impl_ParsePlates.l0 k acc V (V.length : Int) (i : Int)) r ∧ r.1.length ≤ 60 ∧ (r = ([], false) ∨ acc.length + (V.length - i) ≤ 60 ∧ (∀ x ∈ V.drop i, x.size ≤ 5) ∧ Good r.1 ∧ ∃ L, r.1 = acc ++ L ∧ V.drop i = L.map ptB) := by
  intro d
  induction d with
  | zero =>
    intro i acc hi hd ha
    obtain rfl : i = V.length := by omega
    obtain ⟨g, h1, h2, h3⟩ := good_both acc (by omega)
    have sl : ∀ r, (if g = true then some (acc, true) else some (([] : List S25), false)) = some r → Ev (fun k => spec_ParsePlates.l0 k acc V (V.length : Int) (V.length : Int)) r ∧ Ev (fun k => impl_ParsePlates.l0 k acc V (V.length : Int) (V.length : Int)) r := by
      intro r hr
      refine ⟨M.Ev_succ ?_, M.Ev_succ ?_⟩
      · simp only [spec_ParsePlates.l0, show ¬ ((V.length : Int) < (V.length : Int)) by omega, if_false]
        exact Ev.bind h1 (M.Ev_some fun k => hr)
      · simp only [impl_ParsePlates.l0, show ¬ ((V.length : Int) < (V.length : Int)) by omega, if_false]
        exact Ev.bind h2 (M.Ev_some fun k => hr)
    cases g with
    | false => exact ⟨([], false), (sl _ rfl).1, (sl _ rfl).2, by simp, .inl rfl⟩
    | true =>
      have hg : Good acc := h3.1 rfl
      have := hg.2.1
      exact ⟨(acc, true), (sl _ rfl).1, (sl _ rfl).2, this, .inr ⟨by omega, (by rw [List.drop_length]; intro x hx; cases hx), hg, [], by simp, (by rw [List.drop_length]; rfl)⟩⟩
  | succ d ih =>
    intro i acc hi hd ha
    have hlt : i < V.length := by omega
    have e : wrap64 ((i : Int) + 1) = ((i + 1 : Nat) : Int) := by rw [M.w64 (by omega) (by omega)]; omega
    have hrd : rdOf ByteArray.empty V (i : Int) = V[i] := by
      unfold rdOf
      rw [Int.toNat_natCast, List.getD_eq_getElem?_getD, List.getElem?_eq_getElem hlt]
      rfl
    have hx5 := hsz _ (List.getElem_mem hlt)
    by_cases hx : ∃ n l, Spells V[i] n l
    · obtain ⟨n, l, hs⟩ := hx
      obtain ⟨r, h1, h2, h3, h4⟩ := ih (i + 1) (acc ++ [⟨n, l⟩]) (by omega) (by omega) (by rw [List.length_append]; simp; omega)
      refine ⟨r, M.Ev_succ ?_, M.Ev_succ ?_, h3, ?_⟩
      · simp only [spec_ParsePlates.l0, show (i : Int) < (V.length : Int) by omega, show (0 : Int) ≤ (i : Int) by omega, if_true, hrd]
        refine Ev.bind (specParse_spells hs) ?_
        simp only [if_true, show acc.length < 8796093022208 by omega, e]
        exact h1
      · simp only [impl_ParsePlates.l0, show (i : Int) < (V.length : Int) by omega, show (0 : Int) ≤ (i : Int) by omega, if_true, hrd]
        refine Ev.bind (implParse_spells hs) ?_
        simp only [if_true, show acc.length < 8796093022208 by omega, e]
        exact h2
      · rcases h4 with h4 | ⟨h4, h5, h6, L, h7, h8⟩
        · exact .inl h4
        · rw [List.length_append] at h4
          simp at h4
          refine .inr ⟨by omega, ?_, h6, ⟨n, l⟩ :: L, by rw [h7, List.append_assoc]; rfl, ?_⟩
          · rw [List.drop_eq_getElem_cons hlt]
            intro x hx
            rcases List.mem_cons.1 hx with rfl | hx
            · exact spells_size hs
            · exact h5 x hx
          · rw [List.drop_eq_getElem_cons hlt, h8, List.map_cons, hs.2]
            rfl
    · obtain ⟨r, h1, h2⟩ := specParse_any V[i] hx5
      obtain ⟨q, h3, h4⟩ := implParse_any V[i] hx5
      have e1 : ¬ r.2.2 = true := fun z => hx ⟨_, _, h2 z⟩
      have e2 : q = (0, 0, false) := by
        rcases h4 with h4 | ⟨_, h4⟩
        · exact h4
        · exact absurd ⟨_, _, h4⟩ hx
      subst e2
      refine ⟨([], false), M.Ev_succ ?_, M.Ev_succ ?_, by simp, .inl rfl⟩
      · simp only [spec_ParsePlates.l0, show (i : Int) < (V.length : Int) by omega, show (0 : Int) ≤ (i : Int) by omega, if_true, hrd]
        exact Ev.bind h1 (M.Ev_some fun k => by rw [if_neg e1])
      · simp only [impl_ParsePlates.l0, show (i : Int) < (V.length : Int) by omega, show (0 : Int) ≤ (i : Int) by omega, if_true, hrd]
        exact Ev.bind h3 (M.Ev_some fun k => by simp)
theorem sum_le (V : List ByteArray) (h : ∀ x ∈ V, x.size ≤ 5) : ((V.map (·.data.toList)).map (fun x => x.length + 1)).sum ≤ 6 * V.length := by
  induction V with
  | nil => simp
  | cons x V ih =>
    have h1 := ih (fun y hy => h y (by simp [hy]))
    have h2 : x.data.toList.length ≤ 5 := by rw [Array.length_toList]; exact h x (by simp)
    simp only [List.map_cons, List.sum_cons, List.length_cons]
    omega
theorem sum_ge (V : List ByteArray) : (∀ x ∈ V, x.size + 1 ≤ ((V.map (·.data.toList)).map (fun x => x.length + 1)).sum) ∧ V.length ≤ ((V.map (·.data.toList)).map (fun x => x.length + 1)).sum := by
  induction V with
  | nil => simp
  | cons x V ih =>
    have hx : x.data.toList.length = x.size := Array.length_toList
    simp only [List.map_cons, List.sum_cons, List.length_cons]
    refine ⟨fun y hy => ?_, by omega⟩
    rcases List.mem_cons.1 hy with rfl | hy
    · omega
    · have := ih.1 y hy
      omega
/-- ParsePlates: both come to the same; what is read is what the text is of. -/
theorem ParsePlates_ev (s : ByteArray) (hs : s.size ≤ 1048576) : ∃ r : List S25 × Bool, Ev (fun k => spec_ParsePlates.f k s) r ∧ Ev (fun k => impl_ParsePlates.f k s) r ∧ r.1.length ≤ 60 ∧ (r.2 = true → Good r.1 ∧ s = strOfNums (pacc r.1 r.1.length)) := by
  obtain ⟨V, h1, h2, h3⟩ := l1Split_ev s (by omega)
  have ht : ((V.map (·.data.toList)).map (fun x => x.length + 1)).sum = s.size + 1 := by
    rw [h3, sp_total]
    simp [Array.length_toList]
  obtain ⟨g1, g2⟩ := sum_ge V
  rw [ht] at g1 g2
  obtain ⟨r, r1, r2, r3, r4⟩ := words_ev V (by omega) (fun x hx => by have := g1 x hx; omega) V.length 0 [] (by omega) (by omega) (by simp)
  unfold spec_ParsePlates.f impl_ParsePlates.f
  simp only [h1, Option.bind_some]
  refine ⟨r, ?_, r2, r3, fun hr => ?_⟩
  · by_cases c : (s.size : Int) > 360
    · simp only [c, if_true]
      have : r = ([], false) := by
        rcases r4 with r4 | ⟨r4, r5, _⟩
        · exact r4
        · have := sum_le V (by rw [List.drop_zero] at r5; exact r5)
          simp at r4
          omega
      rw [this]
      exact M.Ev_some fun k => rfl
    · simp only [c, if_false]
      exact Ev.bind h2 r1
  · rcases r4 with r4 | ⟨_, _, r6, L, r7, r8⟩
    · rw [r4] at hr; cases hr
    · rw [List.nil_append] at r7
      subst r7
      rw [List.drop_zero] at r8
      subst r8
      exact ⟨r6, join_texts r.1 s h3.symm⟩
/-- ParsePlate: both come to the same; what is read is what the text is of. -/
theorem ParsePlate_both (s : ByteArray) (hs : s.size ≤ 1000000) : ∃ n l b, Ev (fun k => spec_ParsePlate.f k s) (n, l, b) ∧ Ev (fun k => impl_ParsePlate.f k s) (n, l, b) ∧ (b = true → Spells s n l) := by
  unfold spec_ParsePlate.f impl_ParsePlate.f
  by_cases hx : ∃ n l, Spells s n l
  · obtain ⟨n, l, h⟩ := hx
    exact ⟨n, l, true, Ev.bind (specParse_spells h) (M.Ev_some fun k => rfl), Ev.bind (implParse_spells h) (M.Ev_some fun k => rfl), fun _ => h⟩
  · obtain ⟨r, h1, h2⟩ := specParse_any s (by omega)
    obtain ⟨q, h3, h4⟩ := implParse_any s (by omega)
    have e1 : ¬ r.2.2 = true := fun z => hx ⟨_, _, h2 z⟩
    have e2 : q = (0, 0, false) := by
      rcases h4 with h4 | ⟨_, h4⟩
      · exact h4
      · exact absurd ⟨_, _, h4⟩ hx
    subst e2
    exact ⟨0, 0, false, Ev.bind h1 (M.Ev_some fun k => by rw [if_neg e1]), Ev.bind h3 (M.Ev_some fun k => rfl), fun z => by cases z⟩
def ptxR (a b : Int) : ByteArray × Bool := if M.plateB a b = true then (strOfNums (ptx a b), true) else (⟨#[]⟩, false)
theorem PlateText_both (a b : Int) : Ev (fun k => spec_PlateText.f k a b) (ptxR a b) ∧ impl_PlateText.f a b = some (ptxR a b) := by
  unfold spec_PlateText.f impl_PlateText.f ptxR
  simp only [spec_isPlate_eq, impl_IsPlate_eq, Option.bind_some]
  cases hb : M.plateB a b with
  | false => exact ⟨M.Ev_some fun k => by simp, by simp⟩
  | true =>
    simp only [if_true, plateText_eq hb, Option.bind_some]
    exact ⟨Ev.bind (isText_ev hb) (M.Ev_some fun k => rfl), by simp⟩
/-- The numbers that no plate has, up to plate i. -/
def gapsUp (l : List S25) : Nat → List Int
  | 0 => []
  | i + 1 => gapsUp l i ++ M.runI (pn l i + 1) (pn l (i + 1) - (pn l i + 1)).toNat
noncomputable def gapsR (l : List S25) : List Int × Bool := if Good l then (gapsUp l (l.length - 1), true) else ([], false)
theorem gapsUp_len {l : List S25} (hg : Good l) : ∀ i, i < l.length → (gapsUp l i).length ≤ 10000 * i := by
  intro i
  induction i with
  | zero => intro _; simp [gapsUp]
  | succ i ih =>
    intro hi
    have h1 := ih (by omega)
    have p1 := M.plateB_iff.1 (hg.2.2.1 i (by omega))
    have p2 := M.plateB_iff.1 (hg.2.2.1 (i + 1) hi)
    simp only [gapsUp, List.length_append, M.runI_length]
    omega
theorem gaps_in_spec (l : List S25) (i : Nat) (hi : i < l.length) (hil : l.length ≤ 60) (hp : M.plateB (pn l i) (pl l i) = true) : ∀ (d : Nat) (n : Int) (acc : List Int) (r : List Int × Bool), 0 ≤ n → n ≤ 10000 → (pn l i - n).toNat = d → acc.length + d ≤ 1000000 →
    Ev (fun k => spec_GapsOfPlates.l0 k l (acc ++ M.runI n d) ((i + 1 : Nat) : Int)) r → Ev (fun k => spec_GapsOfPlates.l1 k l acc (i : Int) n) r := by
  have p := M.plateB_iff.1 hp
  have e : wrap64 ((i : Int) + 1) = ((i + 1 : Nat) : Int) := by rw [M.w64 (by omega) (by omega)]; omega
  have f0 : (rd_T25 l (i : Int)).f0 = pn l i := rfl
  intro d
  induction d with
  | zero =>
    intro n acc r h0 h1 hd hlen hr
    refine M.Ev_succ ?_
    simp only [spec_GapsOfPlates.l1, show (i : Int) < (l.length : Int) by omega, show (0 : Int) ≤ (i : Int) by omega, if_true, f0, show ¬ (n < pn l i) by omega, if_false, e]
    simpa [M.runI] using hr
  | succ d ih =>
    intro n acc r h0 h1 hd hlen hr
    refine M.Ev_succ ?_
    simp only [spec_GapsOfPlates.l1, show (i : Int) < (l.length : Int) by omega, show (0 : Int) ≤ (i : Int) by omega, if_true, f0, show (n < pn l i) by omega, show acc.length < 17592186044416 by omega]
    rw [M.w64 (by omega) (by omega)]
    refine ih (n + 1) _ r (by omega) (by omega) (by omega) (by simp; omega) ?_
    rw [M.runI_succ] at hr
    simpa using hr
theorem gaps_in_impl (l : List S25) (i : Nat) (hi : i < l.length) (hil : l.length ≤ 60) (hp : M.plateB (pn l i) (pl l i) = true) : ∀ (d : Nat) (n : Int) (acc : List Int) (r : List Int × Bool), 0 ≤ n → n ≤ 10000 → (pn l i - n).toNat = d → acc.length + d ≤ 1000000 →
    Ev (fun k => impl_GapsOfPlates.l0 k l (acc ++ M.runI n d) ((i + 1 : Nat) : Int)) r → Ev (fun k => impl_GapsOfPlates.l1 k l acc (i : Int) n) r := by
  have p := M.plateB_iff.1 hp
  have e : wrap64 ((i : Int) + 1) = ((i + 1 : Nat) : Int) := by rw [M.w64 (by omega) (by omega)]; omega
  have f0 : (rd_T25 l (i : Int)).f0 = pn l i := rfl
  intro d
  induction d with
  | zero =>
    intro n acc r h0 h1 hd hlen hr
    refine M.Ev_succ ?_
    simp only [impl_GapsOfPlates.l1, show (i : Int) < (l.length : Int) by omega, show (0 : Int) ≤ (i : Int) by omega, if_true, f0, show ¬ (n < pn l i) by omega, if_false, e]
    simpa [M.runI] using hr
  | succ d ih =>
    intro n acc r h0 h1 hd hlen hr
    refine M.Ev_succ ?_
    simp only [impl_GapsOfPlates.l1, show (i : Int) < (l.length : Int) by omega, show (0 : Int) ≤ (i : Int) by omega, if_true, f0, show (n < pn l i) by omega, show acc.length < 17592186044416 by omega]
    rw [M.w64 (by omega) (by omega)]
    refine ih (n + 1) _ r (by omega) (by omega) (by omega) (by simp; omega) ?_
    rw [M.runI_succ] at hr
    simpa using hr
theorem gaps_out (l : List S25) (hg : Good l) : ∀ (d i : Nat), i < l.length → l.length - 1 - i = d →
    Ev (fun k => spec_GapsOfPlates.l0 k l (gapsUp l i) ((i + 1 : Nat) : Int)) (gapsUp l (l.length - 1), true) ∧ Ev (fun k => impl_GapsOfPlates.l0 k l (gapsUp l i) ((i + 1 : Nat) : Int)) (gapsUp l (l.length - 1), true) := by
  have hl60 := hg.2.1
  intro d
  induction d with
  | zero =>
    intro i hi hd
    obtain rfl : i = l.length - 1 := by omega
    refine ⟨M.Ev_succ (M.Ev_some fun k => ?_), M.Ev_succ (M.Ev_some fun k => ?_)⟩
    · simp only [spec_GapsOfPlates.l0]; rw [if_neg (by omega)]
    · simp only [impl_GapsOfPlates.l0]; rw [if_neg (by omega)]
  | succ d ih =>
    intro i hi hd
    obtain ⟨h1, h2⟩ := ih (i + 1) (by omega) (by omega)
    have p1 := M.plateB_iff.1 (hg.2.2.1 i hi)
    have p2 := M.plateB_iff.1 (hg.2.2.1 (i + 1) (by omega))
    have hlen := gapsUp_len hg i hi
    have em : wrap64 (((i + 1 : Nat) : Int) - 1) = (i : Int) := by rw [M.w64 (by omega) (by omega)]; omega
    have f0 : (rd_T25 l (i : Int)).f0 = pn l i := rfl
    have en : wrap64 (pn l i + 1) = pn l i + 1 := M.w64 (by omega) (by omega)
    refine ⟨M.Ev_succ ?_, M.Ev_succ ?_⟩
    · simp only [spec_GapsOfPlates.l0, show ((i + 1 : Nat) : Int) < (l.length : Int) by omega, em, show (i : Int) < (l.length : Int) by omega, show (0 : Int) ≤ (i : Int) by omega, if_true, f0, en]
      exact gaps_in_spec l (i + 1) (by omega) hl60 (hg.2.2.1 (i + 1) (by omega)) _ _ _ _ (by omega) (by omega) rfl (by omega) h1
    · simp only [impl_GapsOfPlates.l0, show ((i + 1 : Nat) : Int) < (l.length : Int) by omega, em, show (i : Int) < (l.length : Int) by omega, show (0 : Int) ≤ (i : Int) by omega, if_true, f0, en]
      exact gaps_in_impl l (i + 1) (by omega) hl60 (hg.2.2.1 (i + 1) (by omega)) _ _ _ _ (by omega) (by omega) rfl (by omega) h2
theorem Gaps_ev (l : List S25) (hl : l.length ≤ 1000000000000) : Ev (fun k => spec_GapsOfPlates.f k l) (gapsR l) ∧ Ev (fun k => impl_GapsOfPlates.f k l) (gapsR l) := by
  obtain ⟨b, h1, h2, h3⟩ := good_both l (by omega)
  unfold spec_GapsOfPlates.f impl_GapsOfPlates.f
  cases b with
  | false =>
    have hg : ¬ Good l := fun z => by simpa using h3.2 z
    have e : gapsR l = ([], false) := by unfold gapsR; rw [if_neg hg]
    rw [e]
    exact ⟨Ev.bind h1 (M.Ev_some fun k => rfl), Ev.bind h2 (M.Ev_some fun k => rfl)⟩
  | true =>
    have hg : Good l := h3.1 rfl
    have e : gapsR l = (gapsUp l (l.length - 1), true) := by unfold gapsR; rw [if_pos hg]
    have hpos := hg.1
    rw [e]
    obtain ⟨g1, g2⟩ := gaps_out l hg (l.length - 1) 0 (by omega) (by omega)
    refine ⟨Ev.bind h1 ?_, Ev.bind h2 ?_⟩
    · simp only [if_true]; exact g1
    · simp only [if_true]; exact g2
theorem gapsR_len (l : List S25) : (gapsR l).1.length ≤ 1000000 := by
  unfold gapsR
  split
  · rename_i hg
    have := gapsUp_len hg (l.length - 1) (by have := hg.1; omega)
    have := hg.2.1
    simp only
    omega
  · simp
theorem aSame_loop (l : List Int) (hl : l.length ≤ 1000000000000) : ∀ (d i : Nat), i ≤ l.length → l.length - i = d → Ev (fun k => laws_aSame.l0 k l l (l.length : Int) (i : Int)) true := by
  intro d
  induction d with
  | zero =>
    intro i hi hd
    refine M.Ev_succ (M.Ev_some fun r => ?_)
    simp only [laws_aSame.l0]
    rw [if_neg (by omega)]
  | succ d ih =>
    intro i hi hd
    have e : wrap64 ((i : Int) + 1) = ((i + 1 : Nat) : Int) := by rw [M.w64 (by omega) (by omega)]; omega
    refine M.Ev_succ ?_
    simp only [laws_aSame.l0, show (i : Int) < (l.length : Int) by omega, show (0 : Int) ≤ (i : Int) by omega, if_true, e]
    exact ih (i + 1) (by omega) (by omega)
theorem aSame_ev (l : List Int) (hl : l.length ≤ 1000000000000) : Ev (fun k => laws_aSame.f k l l) true := by
  unfold laws_aSame.f
  simp only [if_true]
  exact aSame_loop l hl l.length 0 (by omega) (by omega)
theorem runI_pair (m : Int) (n : Nat) : (M.runI m n).Pairwise (· < ·) := by
  rw [List.pairwise_iff_getElem]
  intro i j hi hj h
  rw [M.runI_get, M.runI_get]
  omega
theorem runI_mem {m : Int} {n : Nat} {x : Int} (h : x ∈ M.runI m n) : m ≤ x ∧ x < m + n := by
  obtain ⟨i, hi, rfl⟩ := List.getElem_of_mem h
  rw [M.runI_length] at hi
  rw [M.runI_get]
  omega
theorem good_pn {l : List S25} (hg : Good l) {i : Nat} (hi : i + 1 < l.length) : pn l i ≤ pn l (i + 1) := by
  have h := hg.2.2.2 i hi
  have p1 := M.plateB_iff.1 (hg.2.2.1 i (by omega))
  have p2 := M.plateB_iff.1 (hg.2.2.1 (i + 1) hi)
  unfold prk M.rank at h
  omega
theorem gapsUp_rise {l : List S25} (hg : Good l) : ∀ i, i < l.length → (gapsUp l i).Pairwise (· < ·) ∧ ∀ x ∈ gapsUp l i, x ≤ pn l i
  | 0, _ => ⟨by simp [gapsUp], by simp [gapsUp]⟩
  | i + 1, hi => by
    obtain ⟨h1, h2⟩ := gapsUp_rise hg i (by omega)
    have hp := good_pn hg hi
    refine ⟨?_, ?_⟩
    · simp only [gapsUp]
      refine List.pairwise_append.2 ⟨h1, runI_pair _ _, fun x hx y hy => ?_⟩
      have := h2 x hx
      have := runI_mem hy
      omega
    · intro x hx
      simp only [gapsUp, List.mem_append] at hx
      rcases hx with hx | hx
      · have := h2 x hx
        omega
      · have := runI_mem hx
        omega
theorem aRises_loop (l : List Int) (hl : l.length ≤ 1000000000000) (hr : l.Pairwise (· < ·)) : ∀ (d i : Nat), 1 ≤ i → i ≤ l.length → l.length - i = d → Ev (fun k => laws_aRises.l0 k l (i : Int)) true := by
  intro d
  induction d with
  | zero =>
    intro i h1 hi hd
    refine M.Ev_succ (M.Ev_some fun r => ?_)
    simp only [laws_aRises.l0]
    rw [if_neg (by omega)]
  | succ d ih =>
    intro i h1 hi hd
    have hlt : i < l.length := by omega
    have e : wrap64 ((i : Int) + 1) = ((i + 1 : Nat) : Int) := by rw [M.w64 (by omega) (by omega)]; omega
    have em : wrap64 ((i : Int) - 1) = ((i - 1 : Nat) : Int) := by rw [M.w64 (by omega) (by omega)]; omega
    have hlt2 := List.pairwise_iff_getElem.1 hr (i - 1) i (by omega) hlt (by omega)
    refine M.Ev_succ ?_
    simp only [laws_aRises.l0, em, e, show (i : Int) < (l.length : Int) by omega, show (0 : Int) ≤ (i : Int) by omega, show (0 : Int) ≤ ((i - 1 : Nat) : Int) by omega, show ((i - 1 : Nat) : Int) < (l.length : Int) by omega, if_true, M.rd_get hlt, M.rd_get (show i - 1 < l.length by omega), show ¬ (l[i - 1] ≥ l[i]) by omega, if_false]
    exact ih (i + 1) (by omega) (by omega) (by omega)
theorem aRises_ev (l : List Int) (hl : l.length ≤ 1000000000000) (hr : l.Pairwise (· < ·)) : Ev (fun k => laws_aRises.f k l) true := by
  unfold laws_aRises.f
  by_cases c : l.length = 0
  · refine M.Ev_succ (M.Ev_some fun r => ?_)
    simp only [laws_aRises.l0]
    rw [if_neg (by omega)]
  · exact aRises_loop l hl hr (l.length - 1) 1 (by omega) (by omega) (by omega)
/-- The gaps and the numbers that there are, together. -/
theorem gaps_nums {l : List S25} (hg : Good l) : ∀ i, i < l.length → ((gapsUp l i).length : Int) + GFnPlatesOrder.numsP l (i + 1) = pn l i - pn l 0 + 1 ∧ 0 ≤ GFnPlatesOrder.numsP l (i + 1) ∧ GFnPlatesOrder.numsP l (i + 1) ≤ i + 1
  | 0, _ => by simp [gapsUp, GFnPlatesOrder.numsP]
  | i + 1, hi => by
    obtain ⟨h1, h2, h3⟩ := gaps_nums hg i (by omega)
    have hp := good_pn hg hi
    have e0 : (l.getD i z25).f0 = pn l i := by
      unfold pn
      rw [rdT_get (by omega), List.getD_eq_getElem?_getD, List.getElem?_eq_getElem (by omega)]; rfl
    have e1 : (l.getD (i + 1) z25).f0 = pn l (i + 1) := by
      unfold pn
      rw [rdT_get hi, List.getD_eq_getElem?_getD, List.getElem?_eq_getElem hi]; rfl
    rw [GFnPlatesOrder.numsP, if_neg (by omega)]
    simp only [gapsUp, List.length_append, M.runI_length]
    rw [show i + 1 - 1 = i by omega, e0, e1]
    by_cases c : pn l i = pn l (i + 1)
    · rw [if_neg (fun z => z c)]
      omega
    · rw [if_pos c]
      omega
def renL (n : Nat) : List S25 := (List.range n).map fun (i : Nat) => ⟨(i : Int) + 1, 0⟩
theorem renL_length (n : Nat) : (renL n).length = n := by simp [renL]
theorem renL_get (n i : Nat) (h : i < (renL n).length) : (renL n)[i] = ⟨(i : Int) + 1, 0⟩ := by simp [renL]
noncomputable def renR (l : List S25) : List S25 × Bool := if Good l then (renL l.length, true) else ([], false)
theorem ren_spec (n : Nat) (hn : n ≤ 1000000) : ∀ (d i : Nat) (acc : List S25), i ≤ n → n - i = d → acc = renL i → Ev (fun k => spec_RenumberPlates.l0 k acc (n : Int) (i : Int)) (renL n, true) := by
  intro d
  induction d with
  | zero =>
    intro i acc hi hd ha
    obtain rfl : i = n := by omega
    refine M.Ev_succ (M.Ev_some fun k => ?_)
    simp only [spec_RenumberPlates.l0]
    rw [if_neg (by omega), ha]
  | succ d ih =>
    intro i acc hi hd ha
    have e : wrap64 ((i : Int) + 1) = ((i + 1 : Nat) : Int) := by rw [M.w64 (by omega) (by omega)]; omega
    have hlen : acc.length < 8796093022208 := by rw [ha, renL_length]; omega
    refine M.Ev_succ ?_
    simp only [spec_RenumberPlates.l0, show (i : Int) < (n : Int) by omega, if_true, hlen, e]
    refine ih (i + 1) _ (by omega) (by omega) ?_
    rw [ha]
    unfold renL
    rw [List.range_succ, List.map_append]
    simp
theorem rdR_get {l : List S25} {i : Nat} (h : i < l.length) : rd_T25 l (i : Int) = l[i] := by
  unfold rd_T25
  rw [Int.toNat_natCast, List.getD_eq_getElem?_getD, List.getElem?_eq_getElem h]; rfl
theorem ren_impl (n : Nat) (hn : n ≤ 1000000) : ∀ (d i : Nat) (acc : List S25), i ≤ n → n - i = d → acc.length = n → acc.take i = (renL n).take i → (∀ j (h : j < acc.length), i ≤ j → (acc[j]).f1 = 0) →
    Ev (fun k => impl_RenumberPlates.l0 k acc (n : Int) (i : Int)) (renL n, true) := by
  intro d
  induction d with
  | zero =>
    intro i acc hi hd ha ht hz
    obtain rfl : i = n := by omega
    refine M.Ev_succ (M.Ev_some fun k => ?_)
    simp only [impl_RenumberPlates.l0]
    rw [if_neg (by omega), M.take_all ha (renL_length _) ht]
  | succ d ih =>
    intro i acc hi hd ha ht hz
    have e : wrap64 ((i : Int) + 1) = ((i + 1 : Nat) : Int) := by rw [M.w64 (by omega) (by omega)]; omega
    have hl : (rd_T25 acc (i : Int)).f1 = 0 := by rw [rdR_get (show i < acc.length by omega)]; exact hz i (by omega) (Nat.le_refl _)
    refine M.Ev_succ ?_
    simp only [impl_RenumberPlates.l0, show (i : Int) < (n : Int) by omega, show (0 : Int) ≤ (i : Int) by omega, show (i : Int) < (acc.length : Int) by omega, if_true, e, hl, Int.toNat_natCast]
    refine ih (i + 1) _ (by omega) (by omega) (by rw [List.length_set]; exact ha) ?_ ?_
    · exact M.take_set_succ (by omega) (by rw [renL_length]; omega) ht (by rw [renL_get]; congr 1)
    · intro j h hj
      rw [List.getElem_set_ne (by omega)]
      exact hz j (by rw [List.length_set] at h; exact h) (by omega)
theorem Renumber_ev (l : List S25) (hl : l.length ≤ 1000000000000) : Ev (fun k => spec_RenumberPlates.f k l) (renR l) ∧ Ev (fun k => impl_RenumberPlates.f k l) (renR l) := by
  obtain ⟨b, h1, h2, h3⟩ := good_both l (by omega)
  unfold spec_RenumberPlates.f impl_RenumberPlates.f
  cases b with
  | false =>
    have hg : ¬ Good l := fun z => by simpa using h3.2 z
    have e : renR l = ([], false) := by unfold renR; rw [if_neg hg]
    rw [e]
    exact ⟨Ev.bind h1 (M.Ev_some fun k => rfl), Ev.bind h2 (M.Ev_some fun k => rfl)⟩
  | true =>
    have hg : Good l := h3.1 rfl
    have hl60 := hg.2.1
    have e : renR l = (renL l.length, true) := by unfold renR; rw [if_pos hg]
    rw [e]
    refine ⟨Ev.bind h1 ?_, Ev.bind h2 ?_⟩
    · simp only [if_true]
      exact ren_spec l.length (by omega) l.length 0 [] (by omega) (by omega) rfl
    · simp only [if_true, show (0 : Int) ≤ (l.length : Int) by omega, Int.toNat_natCast, show l.length ≤ 17592186044416 by omega, Option.bind_some, List.length_replicate]
      refine ren_impl l.length (by omega) l.length 0 _ (by omega) (by omega) (by simp) (by simp) ?_
      intro j h _
      simp [z25]
noncomputable def oldR (l : List S25) (n : Int) : Int × Int × Bool := if Good l ∧ 1 ≤ n ∧ n ≤ (l.length : Int) then (pn l (n - 1).toNat, pl l (n - 1).toNat, true) else (0, 0, false)
theorem impl_OldPlate_ev (l : List S25) (n : Int) (hl : l.length ≤ 1000000000000) : Ev (fun k => impl_OldPlate.f k l n) (oldR l n) := by
  obtain ⟨b, h1, h2, h3⟩ := good_both l (by omega)
  unfold impl_OldPlate.f
  cases b with
  | false =>
    have hg : ¬ Good l := fun z => by simpa using h3.2 z
    have e : oldR l n = (0, 0, false) := by unfold oldR; rw [if_neg (fun z => hg z.1)]
    rw [e]
    exact Ev.bind h2 (M.Ev_some fun k => rfl)
  | true =>
    have hg : Good l := h3.1 rfl
    by_cases c : 1 ≤ n ∧ n ≤ (l.length : Int)
    · obtain ⟨m, hm⟩ := Int.eq_ofNat_of_zero_le (show 0 ≤ n - 1 by omega)
      have e : oldR l n = ((rd_T25 l (n - 1)).f0, (rd_T25 l (n - 1)).f1, true) := by
        unfold oldR pn pl
        rw [if_pos ⟨hg, c⟩, Int.toNat_of_nonneg (by omega)]
      rw [e]
      refine Ev.bind h2 (M.Ev_some fun k => ?_)
      simp only [if_true, impl_within_eq, Option.bind_some, c, and_self, decide_true]
      rw [M.w64 (x := n - 1) (by omega) (by omega), if_pos (by omega), if_pos (by omega)]
    · have e : oldR l n = (0, 0, false) := by unfold oldR; rw [if_neg (fun z => c z.2)]
      rw [e]
      refine Ev.bind h2 (M.Ev_some fun k => ?_)
      simp only [if_true, impl_within_eq, Option.bind_some, c, decide_false, Bool.false_eq_true, if_false]
theorem aPlates_loop (l : List S25) (hl : l.length ≤ 1000000000000) : ∀ (d i : Nat), i ≤ l.length → l.length - i = d → Ev (fun k => laws_aPlates.l0 k l l (l.length : Int) (i : Int)) true := by
  intro d
  induction d with
  | zero =>
    intro i hi hd
    refine M.Ev_succ (M.Ev_some fun r => ?_)
    simp only [laws_aPlates.l0]
    rw [if_neg (by omega)]
  | succ d ih =>
    intro i hi hd
    have e : wrap64 ((i : Int) + 1) = ((i + 1 : Nat) : Int) := by rw [M.w64 (by omega) (by omega)]; omega
    refine M.Ev_succ ?_
    simp only [laws_aPlates.l0, show (i : Int) < (l.length : Int) by omega, show (0 : Int) ≤ (i : Int) by omega, if_true, BEq.rfl, Bool.not_true, Bool.or_self, Bool.false_eq_true, if_false, e]
    exact ih (i + 1) (by omega) (by omega)
theorem aPlates_ev (l : List S25) (hl : l.length ≤ 1000000000000) : Ev (fun k => laws_aPlates.f k l l) true := by
  unfold laws_aPlates.f
  simp only [if_true]
  exact aPlates_loop l hl l.length 0 (by omega) (by omega)
theorem DrawCountBetween_ok {l : List Int} (hl : InB l) : ∃ a b c d, spec_DrawCountBetween.f l = some (a, b, c, d) := by
  obtain ⟨x, y, a1, s1, e1, hc⟩ := plate_ok hl (a := 0) (by omega) (by omega) 0
  obtain ⟨b, a2, s2, e2, hb⟩ := one_ok hl (a := a1) (by omega) (by omega) s1 8
  obtain ⟨z, t, a3, s3, e3, hd⟩ := plate_ok hl (a := a2) (by omega) (by omega) s2
  unfold spec_DrawCountBetween.f spec_DrawComparePlates.f
  simp only [e1, e2, e3, Option.bind_some]
  cases b with
  | true => exact ⟨_, _, _, _, rfl⟩
  | false => exact ⟨_, _, _, _, rfl⟩
theorem DrawPlatesText_ok {l : List Int} (hl : InB l) : ∃ L, Ev (fun k => spec_DrawPlatesText.f k l) L ∧ L.length ≤ 61 := by
  obtain ⟨L, a1, s1, e1, hL, ha, ha2⟩ := plates_ok hl (a := 0) (by omega) (by omega) 0
  exact ⟨L, Ev.bind (Ev.bind e1 (M.Ev_some fun k => rfl)) (M.Ev_some fun k => rfl), hL⟩
theorem DrawParsePlate_ok {l : List Int} (hl : InB l) : ∃ t : ByteArray, Ev (fun r => spec_DrawParsePlate.f r l) t ∧ t.size ≤ 3000 := by
  obtain ⟨n, p, a1, s1, e1, hp, ha⟩ := surePlate_ok hl (a := 0) (by omega) (by omega) 0
  obtain ⟨b, a2, s2, e2, hb⟩ := one_ok hl (a := a1) (by omega) (by omega) s1 3
  have hz : (strOfNums (ptx n p)).size ≤ 22 := by rw [strOfNums_size]; exact ptx_length hp
  unfold spec_DrawParsePlate.f
  simp only [e1, Option.bind_some]
  cases b with
  | true =>
    obtain ⟨r, a', s', hr, hs⟩ := spoilt_ok hl (a := a2) (by omega) (by omega) s2 (strOfNums (ptx n p)) (⟨#[48, 49, 50, 57, 97, 98, 122, 45]⟩ : ByteArray) (by omega) (by decide) (by decide)
    refine ⟨r, Ev.bind (isText_ev hp) ?_, by omega⟩
    simp only [e2, Option.bind_some, if_true]
    exact Ev.bind hr (M.Ev_some fun r => rfl)
  | false =>
    refine ⟨strOfNums (ptx n p), Ev.bind (isText_ev hp) (M.Ev_some fun r => ?_), by omega⟩
    simp only [e2, Option.bind_some, Bool.false_eq_true, if_false]
theorem DrawParsePlates_ok {l : List Int} (hl : InB l) : ∃ t : ByteArray, Ev (fun r => spec_DrawParsePlates.f r l) t ∧ t.size ≤ 3000 := by
  obtain ⟨L, a1, s1, e1, hg, ha⟩ := surePlates_ok hl (a := 0) (by omega) (by omega) 0 7 (by omega)
  obtain ⟨b, a2, s2, e2, hb⟩ := one_ok hl (a := a1) (by omega) (by omega) s1 3
  have hz : (strOfNums (pacc L L.length)).size ≤ 1400 := by
    have := pacc_le L hg L.length (Nat.le_refl _)
    have := hg.2.1
    rw [strOfNums_size]
    omega
  have ht : Ev (fun k => spec_isTexts.f k L) (strOfNums (pacc L L.length)) := isTexts_loop L hg L.length 0 (by omega) (by omega)
  unfold spec_DrawParsePlates.f
  cases b with
  | true =>
    obtain ⟨r, a', s', hr, hs⟩ := spoilt_ok hl (a := a2) (by omega) (by omega) s2 (strOfNums (pacc L L.length)) (⟨#[48, 49, 50, 57, 97, 98, 122, 44]⟩ : ByteArray) (by omega) (by decide) (by decide)
    refine ⟨r, Ev.bind e1 (Ev.bind ht ?_), by omega⟩
    simp only [e2, Option.bind_some, if_true]
    exact Ev.bind hr (M.Ev_some fun r => rfl)
  | false =>
    refine ⟨strOfNums (pacc L L.length), Ev.bind e1 (Ev.bind ht (M.Ev_some fun r => ?_)), by omega⟩
    simp only [e2, Option.bind_some, Bool.false_eq_true, if_false]
theorem order_end {l : List S25} (hg : Good l) : 1 ≤ l.length ∧ l.length ≤ 1000 ∧ l[l.length - 1]? = some ⟨pn l (l.length - 1), pl l (l.length - 1)⟩ ∧ l[0]? = some ⟨pn l 0, pl l 0⟩ ∧ wrap64 (((gapsUp l (l.length - 1)).length : Int) + GFnPlatesOrder.numsP l l.length) = wrap64 (wrap64 (pn l (l.length - 1) - pn l 0) + 1) := by
  have h1 := hg.1
  have h2 := hg.2.1
  have at_ : ∀ i, i < l.length → l[i]? = some ⟨pn l i, pl l i⟩ := fun i hi => by
    unfold pn pl
    rw [rdT_get hi, List.getElem?_eq_getElem hi]
  obtain ⟨g1, g2, g3⟩ := gaps_nums hg (l.length - 1) (by omega)
  rw [show l.length - 1 + 1 = l.length by omega] at g1 g2 g3
  have p0 := M.plateB_iff.1 (hg.2.2.1 0 (by omega))
  have p1 := M.plateB_iff.1 (hg.2.2.1 (l.length - 1) (by omega))
  refine ⟨h1, by omega, at_ _ (by omega), at_ _ (by omega), ?_⟩
  rw [M.w64 (x := pn l (l.length - 1) - pn l 0) (by omega) (by omega), M.w64 (x := pn l (l.length - 1) - pn l 0 + 1) (by omega) (by omega), g1, M.w64 (by omega) (by omega)]
theorem old_at {l : List S25} (hg : Good l) {i : Nat} (hi : i < l.length) : oldR l ((i + 1 : Nat) : Int) = ((l.getD i z25).f0, (l.getD i z25).f1, true) := by
  unfold oldR pn pl
  rw [if_pos ⟨hg, by omega, by omega⟩, show (((i + 1 : Nat) : Int) - 1).toNat = i by omega, rdT_get hi, List.getD_eq_getElem?_getD, List.getElem?_eq_getElem hi]
  rfl
open GFnPlatesOrder (Facts)
theorem facts {l0 l1 : List Int} (h0 : InB l0) (h1 : InB l1) : ∃ kk a0 a1 b0 b1 cn ok od one m0 m1 thr n0 n1 fv tx sv ba x1 y1 ls tt nin ga nm ds re1 fif dt p0 p1 svt la la2 fa fa2,
    Facts kk l0 l1 a0 a1 b0 b1 cn ok od one m0 m1 thr n0 n1 fv tx sv ba x1 y1 ls tt nin ga nm ds re1 fif dt p0 p1 svt la la2 fa fa2 := by
  obtain ⟨a, b, c, d, e3⟩ := DrawCountBetween_ok h0
  obtain ⟨K4, e4⟩ := impl_CountBetween_ev a b c d
  obtain ⟨K5, e5⟩ := spec_CountBetween_ev a b c d
  obtain ⟨K6, e6⟩ := impl_ComparePlates_ev a b c d
  obtain ⟨K7, e7⟩ := spec_ComparePlates_ev a b c d
  obtain ⟨K8, e8⟩ := impl_MiddlePlate_ev a b c d
  obtain ⟨K9, e9⟩ := spec_MiddlePlate_ev a b c d
  obtain ⟨K10, e10⟩ := impl_NextPlate_ev a b
  obtain ⟨K11, e11⟩ := spec_NextPlate_ev a b
  obtain ⟨⟨K13, e13⟩, e12⟩ := PlateText_both a b
  obtain ⟨K17, e17⟩ := impl_ComparePlates_ev c d a b
  obtain ⟨K21, e21⟩ := impl_CountBetween_ev a b (midR a b c d).1 (midR a b c d).2.1
  obtain ⟨K22, e22⟩ := impl_CountBetween_ev (midR a b c d).1 (midR a b c d).2.1 c d
  obtain ⟨K26, e26⟩ := impl_CountBetween_ev a b (nextP a b).1 (nextP a b).2.1
  obtain ⟨x, y, hmf⟩ : ∃ x y : Int, (midR a b c d).2.2 = true → cntB a b (midR a b c d).1 (midR a b c d).2.1 = (x, true) ∧ cntB (midR a b c d).1 (midR a b c d).2.1 c d = (y, true) ∧ x + y + 1 = (cntB a b c d).1 ∧ x ≤ y ∧ y ≤ x + 1 ∧ 0 ≤ x ∧ y ≤ 1000000 := by
    by_cases q : (midR a b c d).2.2 = true
    · obtain ⟨x, y, h⟩ := mid_facts q
      exact ⟨x, y, fun _ => h⟩
    · exact ⟨0, 0, fun z => absurd z q⟩
  have hsv : (ptxR a b).2 = M.plateB a b := by unfold ptxR; cases M.plateB a b <;> rfl
  obtain ⟨K30, e30⟩ := if_ev (c := M.plateB a b = true) (g := fun k => impl_ParsePlate.f k (ptxR a b).1) (r := (a, b, true)) (fun hp => by
    have : (ptxR a b).1 = strOfNums (ptx a b) := by unfold ptxR; rw [if_pos hp]
    rw [this]
    exact Ev.bind (implParse_spells ⟨hp, rfl⟩) (M.Ev_some fun k => rfl))
  obtain ⟨ls, ⟨K33, e33⟩, hls⟩ := DrawPlatesText_ok h1
  obtain ⟨⟨K35, e35⟩, ⟨K34, e34⟩⟩ := PlatesText_both ls (by omega)
  obtain ⟨⟨K37, e37⟩, ⟨K36, e36⟩⟩ := Gaps_ev ls (by omega)
  obtain ⟨⟨K39, e39⟩, ⟨K38, e38⟩⟩ := Renumber_ev ls (by omega)
  obtain ⟨ds, ⟨K40, e40⟩, hds⟩ := DrawParsePlates_ok h1
  obtain ⟨rp, ⟨K42, e42⟩, ⟨K41, e41⟩, hrl, hrp⟩ := ParsePlates_ev ds (by omega)
  obtain ⟨dt, ⟨K43, e43⟩, hdt⟩ := DrawParsePlate_ok h1
  obtain ⟨p0, p1, svt, ⟨K45, e45⟩, ⟨K44, e44⟩, hsp⟩ := ParsePlate_both dt (by omega)
  obtain ⟨g, ⟨K61, e61⟩, ⟨K54, e54⟩, hgd⟩ := good_both ls (by omega)
  have n1 : (ptR ls).2 = g := by
    unfold ptR
    cases g with
    | true => rw [if_pos (hgd.1 rfl)]
    | false => rw [if_neg (fun z => by simpa using hgd.2 z)]
  have n2 : (gapsR ls).2 = g := by
    unfold gapsR
    cases g with
    | true => rw [if_pos (hgd.1 rfl)]
    | false => rw [if_neg (fun z => by simpa using hgd.2 z)]
  have n3 : (renR ls).2 = g := by
    unfold renR
    cases g with
    | true => rw [if_pos (hgd.1 rfl)]
    | false => rw [if_neg (fun z => by simpa using hgd.2 z)]
  have t1 : Good ls → (ptR ls).1 = strOfNums (pacc ls ls.length) := fun z => by unfold ptR; rw [if_pos z]
  have t2 : Good ls → (gapsR ls).1 = gapsUp ls (ls.length - 1) := fun z => by unfold gapsR; rw [if_pos z]
  have t3 : Good ls → (renR ls).1 = renL ls.length := fun z => by unfold renR; rw [if_pos z]
  have hglen := gapsR_len ls
  have hrlen : (renR ls).1.length ≤ 61 := by
    unfold renR
    split
    · rw [renL_length]; exact hls
    · simp
  obtain ⟨K49, e49⟩ := if_ev (c := g = true) (g := fun k => impl_ParsePlates.f k (ptR ls).1) (r := (ls, true)) (fun z => by rw [t1 (hgd.1 z)]; exact parse_texts ls (hgd.1 z))
  obtain ⟨K71, a1⟩ := aPlates_ev ls (by omega)
  obtain ⟨K72, a2⟩ := aPlates_ev (renR ls).1 (by omega)
  obtain ⟨K73, a3⟩ := aPlates_ev rp.1 (by omega)
  obtain ⟨K74, a4⟩ := aSame_ev (gapsR ls).1 (by omega)
  obtain ⟨K75, a5⟩ := if_ev (c := g = true) (g := fun k => laws_aRises.f k (gapsR ls).1) (r := true) (fun z => by
    rw [t2 (hgd.1 z)]
    exact aRises_ev _ (by have := t2 (hgd.1 z); rw [← this]; omega) (gapsUp_rise (hgd.1 z) (ls.length - 1) (by have := (hgd.1 z).1; omega)).1)
  obtain ⟨K76, a6⟩ := all_ev (g := fun (m : Nat) k => impl_OldPlate.f k ls ((m + 1 : Nat) : Int)) (r := fun m => oldR ls ((m + 1 : Nat) : Int)) (List.range ls.length) (fun m _ => impl_OldPlate_ev ls ((m + 1 : Nat) : Int) (by omega))
  obtain ⟨K65, e65⟩ := if_ev (c := rp.2 = true) (g := fun k => impl_PlatesText.f k rp.1) (r := (ds, true)) (fun z => by
    obtain ⟨q1, q2⟩ := hrp z
    have := (PlatesText_both rp.1 (by omega)).2
    unfold ptR at this
    rw [if_pos q1, ← q2] at this
    exact this)
  obtain ⟨kk, g4, g5, g6, g7, g8, g9, g10, g11, g13, g17, g21, g22, g26, g30, g33, g34, g35, g36, g37, g38, g39, g40, g41, g42, g43, g44, g45, g49, g54, g61, g65, g71, g72, g73, g74, g75, g76⟩ : ∃ kk, K4 ≤ kk ∧ K5 ≤ kk ∧ K6 ≤ kk ∧ K7 ≤ kk ∧ K8 ≤ kk ∧ K9 ≤ kk ∧ K10 ≤ kk ∧ K11 ≤ kk ∧ K13 ≤ kk ∧ K17 ≤ kk ∧ K21 ≤ kk ∧ K22 ≤ kk ∧ K26 ≤ kk ∧ K30 ≤ kk ∧ K33 ≤ kk ∧ K34 ≤ kk ∧ K35 ≤ kk ∧ K36 ≤ kk ∧ K37 ≤ kk ∧ K38 ≤ kk ∧ K39 ≤ kk ∧ K40 ≤ kk ∧ K41 ≤ kk ∧ K42 ≤ kk ∧ K43 ≤ kk ∧ K44 ≤ kk ∧ K45 ≤ kk ∧ K49 ≤ kk ∧ K54 ≤ kk ∧ K61 ≤ kk ∧ K65 ≤ kk ∧ K71 ≤ kk ∧ K72 ≤ kk ∧ K73 ≤ kk ∧ K74 ≤ kk ∧ K75 ≤ kk ∧ K76 ≤ kk := ⟨K4 + K5 + K6 + K7 + K8 + K9 + K10 + K11 + K13 + K17 + K21 + K22 + K26 + K30 + K33 + K34 + K35 + K36 + K37 + K38 + K39 + K40 + K41 + K42 + K43 + K44 + K45 + K49 + K54 + K61 + K65 + K71 + K72 + K73 + K74 + K75 + K76, by omega, by omega, by omega, by omega, by omega, by omega, by omega, by omega, by omega, by omega, by omega, by omega, by omega, by omega, by omega, by omega, by omega, by omega, by omega, by omega, by omega, by omega, by omega, by omega, by omega, by omega, by omega, by omega, by omega, by omega, by omega, by omega, by omega, by omega, by omega, by omega, by omega⟩
  refine ⟨kk, a, b, c, d, (cntB a b c d).1, (cntB a b c d).2, (cmpR a b c d).1, (cmpR a b c d).2, (midR a b c d).1, (midR a b c d).2.1, (midR a b c d).2.2, (nextP a b).1, (nextP a b).2.1, (nextP a b).2.2, (ptxR a b).1, M.plateB a b, (cmpR c d a b).1, x, y, ls, (ptR ls).1, g, (gapsR ls).1, (renR ls).1, ds, rp.1, rp.2, dt, p0, p1, svt, pn ls (ls.length - 1), pl ls (ls.length - 1), pn ls 0, pl ls 0, ?_⟩
  exact {
    f3_1 := e3
    f4_2 := e4 kk g4
    f5_2 := e5 kk g5
    f6_2 := e6 kk g6
    f7_2 := e7 kk g7
    f8_2 := e8 kk g8
    f9_2 := e9 kk g9
    f10_1 := e10 kk g10
    f11_1 := e11 kk g11
    f12_1 := by rw [← hsv]; exact e12
    f13_1 := by rw [← hsv]; exact e13 kk g13
    f33_1 := e33 kk g33
    f34_1 := by rw [← n1]; exact e34 kk g34
    f35_1 := by rw [← n1]; exact e35 kk g35
    f36_1 := by rw [← n2]; exact e36 kk g36
    f37_1 := by rw [← n2]; exact e37 kk g37
    f38_1 := by rw [← n3]; exact e38 kk g38
    f39_1 := by rw [← n3]; exact e39 kk g39
    f40_1 := e40 kk g40
    f41_1 := e41 kk g41
    f42_1 := e42 kk g42
    f43_1 := e43 kk g43
    f44_1 := e44 kk g44
    f45_1 := e45 kk g45
    f69_1 := fun z => by
      obtain ⟨q1, q2⟩ := hsp z
      rw [(PlateText_both p0 p1).2, q2]
      unfold ptxR
      rw [if_pos q1]
    f65_1 := fun z => e65 z kk g65
    f49_1 := fun z => e49 z kk g49
    f50_5 := fun _ => a1 kk g71
    f50_10 := fun z => a5 z kk g75
    f46_16 := a4 kk g74
    f46_27 := a2 kk g72
    f46_38 := a3 kk g73
    f46_54 := e54 kk g54
    f46_59 := e54 kk g54
    f46_61 := by
      unfold spec_ArePlates.f
      rw [show spec_isGood.f kk ls = some g from e61 kk g61]
      rfl
    f30_1 := fun z => e30 z kk g30
    f26_2 := fun z => (e26 kk g26).trans (by rw [(next_facts z).2.1])
    f27_8 := fun z => by rw [impl_IsPlate_eq, (next_facts z).2.2]
    f21_2 := fun z => (e21 kk g21).trans (by rw [(hmf z).1])
    f22_2 := fun z => (e22 kk g22).trans (by rw [(hmf z).2.1])
    f17_2 := fun z => (e17 kk g17).trans (by rw [(cmp_back z).1])
    f14_51 := impl_IsPlate_eq a b
    f14_56 := impl_IsPlate_eq a b
    f14_58 := by unfold spec_IsPlate.f; rw [spec_isPlate_eq]; rfl
    hcmp := cnt_cmp a b c d
    hmid := mid_cnt a b c d
    hfs := fun z => (next_facts z).1
    hback := fun z => by
      obtain ⟨q1, _, q3, q4⟩ := cmp_back z
      rw [q1, M.w64 (by omega) (by omega)]
    hzero := fun z => by
      obtain ⟨_, q2, _, _⟩ := cmp_back z
      rw [Bool.eq_iff_iff]
      simp only [beq_iff_eq, Bool.and_eq_true]
      exact q2
    hsum := fun z => by
      obtain ⟨_, _, q3, q4, q5, q6, q7⟩ := hmf z
      rw [M.w64 (x := x + y) (by omega) (by omega), M.w64 (by omega) (by omega)]
      exact q3
    hxy := fun z => by have := (hmf z).2.2.2.1; omega
    hyx := fun z => by
      obtain ⟨_, _, q3, q4, q5, q6, q7⟩ := hmf z
      rw [M.w64 (x := x + 1) (by omega) (by omega)]
      omega
    hlen := fun z => by rw [t3 (hgd.1 z), renL_length]
    hold := fun z i hi => by
      rw [← old_at (hgd.1 z) hi]
      exact a6 i (List.mem_range.2 hi) kk g76
    hnm := fun z i hi => by
      rw [t3 (hgd.1 z), List.getElem?_eq_getElem (by rw [renL_length]; exact hi), renL_get]
      rfl
    hend := fun z => by rw [t2 (hgd.1 z)]; exact order_end (hgd.1 z) }
theorem FnPlatesOrder {A0 A1 : Option Addr} {c0 c1 : Nat} {l0 l1 : List Int} (w : World) (hV : VarsOK w) (hr0 : Kd.C (Kd.int .u8) w A0 l0.length l0) (hc0 : l0.length ≤ c0) (hr1 : Kd.C (Kd.int .u8) w A1 l1.length l1) (hc1 : l1.length ≤ c1) (h0 : InB l0) (h1 : InB l1) :
    Calls Tryz.prog 3 #[.slice A0 l0.length c0, .slice A1 l1.length c1] w fun e w' => e = .returned (.bool true) ∧ Below w.heap.size w w' := by
  have hb : ∃ b, laws_big.f l0 l1 = some b := by
    unfold laws_big.f
    split
    · exact ⟨_, rfl⟩
    · exact ⟨_, rfl⟩
  obtain ⟨b, hb⟩ := hb
  cases b with
  | true => exact GFnPlatesOrder.calls_big hb w hV hr0 hc0 hr1 hc1
  | false =>
    obtain ⟨kk, a0, a1, b0, b1, cn, ok, od, one, m0, m1, thr, n0, n1, fv, tx, sv, ba, x1, y1, ls, tt, nin, ga, nm, ds, re1, fif, dt, p0, p1, svt, la, la2, fa, fa2, H⟩ := facts h0 h1
    exact GFnPlatesOrder.calls_small H hb w hV hr0 hc0 hr1 hc1

end Go.Proofs.YtbnhfipcjbnknaaGreatDoor.Pure
