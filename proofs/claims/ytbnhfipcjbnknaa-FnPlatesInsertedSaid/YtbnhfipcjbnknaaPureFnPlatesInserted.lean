/- FnPlatesInserted holds for all bytes: whatever is drawn, the program and the reference answer alike, and what is put in is where it should be. -/
import Derived.Test.YtbnhfipcjbnknaaM
import Derived.Test.YtbnhfipcjbnknaaGFnPlatesInserted
import Derived.Laws.Bits64b
namespace Go.Proofs.Ytbnhfipcjbnknaa.Pure
open Go.RowKit Go.Proofs.Ytbnhfipcjbnknaa.PFnPlatesInserted Go.Proofs.YtbnhfipcjbnknaaW.PrintWords Go.Proofs.YtbnhfipcjbnknaaW.PrintLast Go.Proofs.YtbnhfipcjbnknaaW.PrintMore
set_option linter.unusedVariables false
set_option linter.unusedSimpArgs false
theorem spec_l1In_eq (a b c : Int) : spec_l1In.f a b c = some (decide (b ≤ a ∧ a ≤ c)) := by
  unfold spec_l1In.f
  by_cases h : a ≥ b
  · rw [if_pos h]; simp [show b ≤ a from h]
  · rw [if_neg h]; simp [show ¬ b ≤ a from h]
theorem impl_within_eq (a b c : Int) : impl_within.f a b c = some (decide (b ≤ a ∧ a ≤ c)) := by
  unfold impl_within.f
  by_cases h : a ≥ b
  · rw [if_pos h]; simp [show b ≤ a from h]
  · rw [if_neg h]; simp [show ¬ b ≤ a from h]
theorem spec_isPlate_eq (n l : Int) : spec_isPlate.f n l = some (M.plateB n l) := by
  unfold spec_isPlate.f M.plateB
  simp only [spec_l1In_eq, Option.bind_some]
  by_cases h : 1 ≤ n ∧ n ≤ 9999 <;> simp [h]
theorem impl_IsPlate_eq (n l : Int) : impl_IsPlate.f n l = some (M.plateB n l) := by
  unfold impl_IsPlate.f M.plateB
  simp only [impl_within_eq, Option.bind_some]
  by_cases h : 1 ≤ n ∧ n ≤ 9999 <;> simp [h]
theorem spec_isRank_eq {n l : Int} (h : M.plateB n l = true) : spec_isRank.f n l = some (M.rank n l) := by
  have h' := M.plateB_iff.1 h
  unfold spec_isRank.f M.rank
  rw [M.w64 (x := 27 * n) (by omega) (by omega), M.w64 (by omega) (by omega), Int.mul_comm]
theorem impl_rankOf_eq {n l : Int} (h : M.plateB n l = true) : impl_rankOf.f n l = some (M.rank n l) := by
  have h' := M.plateB_iff.1 h
  unfold impl_rankOf.f M.rank
  rw [M.w64 (x := n * 27) (by omega) (by omega), M.w64 (by omega) (by omega)]
def pn (l : List S26) (i : Nat) : Int := (rd_T26 l (i : Int)).f0
def pl (l : List S26) (i : Nat) : Int := (rd_T26 l (i : Int)).f1
def prk (l : List S26) (i : Nat) : Int := M.rank (pn l i) (pl l i)
/-- Plates: 1 to 60 of them, each a plate, one behind the other. -/
def Good (l : List S26) : Prop := 1 ≤ l.length ∧ l.length ≤ 60 ∧ (∀ i, i < l.length → M.plateB (pn l i) (pl l i) = true) ∧ ∀ i, i + 1 < l.length → prk l i < prk l (i + 1)
noncomputable instance goodDec (l : List S26) : Decidable (Good l) := Classical.propDecidable _
theorem good_loops (l : List S26) (hl : l.length ≤ 9000000000000000000) : ∀ (d i : Nat), i ≤ l.length → l.length - i = d → (0 < i → M.plateB (pn l (i - 1)) (pl l (i - 1)) = true) →
    ∃ b : Bool, Ev (fun k => spec_isGood.l0 k l l (l.length : Int) (i : Int)) b ∧ Ev (fun k => impl_ArePlates.l0 k l l (l.length : Int) (i : Int)) (b && decide (1 ≤ l.length ∧ l.length ≤ 60)) ∧
      (b = true ↔ (∀ j, i ≤ j → j < l.length → M.plateB (pn l j) (pl l j) = true) ∧ ∀ j, i ≤ j + 1 → j + 1 < l.length → prk l j < prk l (j + 1)) := by
  intro d
  induction d with
  | zero =>
    intro i hi hd hp
    refine ⟨true, M.Ev_succ (M.Ev_some fun k => ?_), M.Ev_succ (M.Ev_some fun k => ?_), ?_⟩
    · simp only [spec_isGood.l0]; rw [if_neg (by omega)]
    · simp only [impl_ArePlates.l0]
      rw [if_neg (by omega), impl_within_eq]
      simp only [Option.bind_some, Bool.true_and, Option.some.injEq, decide_eq_decide]
      omega
    · simp only [true_iff]
      exact ⟨fun j a b => by omega, fun j a b => by omega⟩
  | succ d ih =>
    intro i hi hd hp
    have e : wrap64 ((i : Int) + 1) = ((i + 1 : Nat) : Int) := by rw [M.w64 (by omega) (by omega)]; omega
    have sp : spec_isPlate.f ((rd_T26 l (i : Int)).f0) ((rd_T26 l (i : Int)).f1) = some (M.plateB (pn l i) (pl l i)) := spec_isPlate_eq _ _
    have ip : impl_IsPlate.f ((rd_T26 l (i : Int)).f0) ((rd_T26 l (i : Int)).f1) = some (M.plateB (pn l i) (pl l i)) := impl_IsPlate_eq _ _
    by_cases hc : M.plateB (pn l i) (pl l i) = true
    · have sr : spec_isRank.f ((rd_T26 l (i : Int)).f0) ((rd_T26 l (i : Int)).f1) = some (prk l i) := spec_isRank_eq hc
      have ir : impl_rankOf.f ((rd_T26 l (i : Int)).f0) ((rd_T26 l (i : Int)).f1) = some (prk l i) := impl_rankOf_eq hc
      obtain ⟨b, h1, h2, h3⟩ := ih (i + 1) (by omega) (by omega) (fun _ => by simpa using hc)
      by_cases h0 : i = 0
      · subst h0
        refine ⟨b, M.Ev_succ ?_, M.Ev_succ ?_, ?_⟩
        · simp only [spec_isGood.l0, show ((0 : Nat) : Int) < (l.length : Int) by omega, show (0 : Int) ≤ ((0 : Nat) : Int) by omega, if_true, sp, hc, Option.bind_some, show ¬ (((0 : Nat) : Int) > 0) by omega, if_false, e]
          exact h1
        · simp only [impl_ArePlates.l0, show ((0 : Nat) : Int) < (l.length : Int) by omega, show (0 : Int) ≤ ((0 : Nat) : Int) by omega, if_true, ip, hc, Option.bind_some, show ¬ (((0 : Nat) : Int) > 0) by omega, if_false, e]
          exact h2
        · rw [h3]
          constructor
          · rintro ⟨x, y⟩
            refine ⟨fun j a b => ?_, fun j a b => y j (by omega) b⟩
            by_cases q : j = 0
            · rw [q]; exact hc
            · exact x j (by omega) b
          · rintro ⟨x, y⟩
            exact ⟨fun j a b => x j (by omega) b, fun j a b => y j (by omega) b⟩
      · have hq := hp (by omega)
        have em : wrap64 ((i : Int) - 1) = ((i - 1 : Nat) : Int) := by rw [M.w64 (by omega) (by omega)]; omega
        have sm : spec_isRank.f ((rd_T26 l ((i - 1 : Nat) : Int)).f0) ((rd_T26 l ((i - 1 : Nat) : Int)).f1) = some (prk l (i - 1)) := spec_isRank_eq hq
        have im : impl_rankOf.f ((rd_T26 l ((i - 1 : Nat) : Int)).f0) ((rd_T26 l ((i - 1 : Nat) : Int)).f1) = some (prk l (i - 1)) := impl_rankOf_eq hq
        have ei : i - 1 + 1 = i := by omega
        by_cases hr : prk l (i - 1) < prk l i
        · refine ⟨b, M.Ev_succ ?_, M.Ev_succ ?_, ?_⟩
          · simp only [spec_isGood.l0, show (i : Int) < (l.length : Int) by omega, show (0 : Int) ≤ (i : Int) by omega, if_true, sp, hc, Option.bind_some, show ((i : Int) > 0) by omega, e, em, show (0 : Int) ≤ ((i - 1 : Nat) : Int) by omega, show ((i - 1 : Nat) : Int) < (l.length : Int) by omega, sm, sr, show ¬ (prk l (i - 1) ≥ prk l i) by omega, if_false]
            exact h1
          · simp only [impl_ArePlates.l0, show (i : Int) < (l.length : Int) by omega, show (0 : Int) ≤ (i : Int) by omega, if_true, ip, hc, Option.bind_some, show ((i : Int) > 0) by omega, e, em, show (0 : Int) ≤ ((i - 1 : Nat) : Int) by omega, show ((i - 1 : Nat) : Int) < (l.length : Int) by omega, im, ir, show ¬ (prk l (i - 1) ≥ prk l i) by omega, if_false]
            exact h2
          · rw [h3]
            constructor
            · rintro ⟨x, y⟩
              refine ⟨fun j a b => ?_, fun j a b => ?_⟩
              · by_cases q : j = i
                · rw [q]; exact hc
                · exact x j (by omega) b
              · by_cases q : j + 1 = i
                · have : j = i - 1 := by omega
                  rw [this, ei]; exact hr
                · exact y j (by omega) b
            · rintro ⟨x, y⟩
              exact ⟨fun j a b => x j (by omega) b, fun j a b => y j (by omega) b⟩
        · refine ⟨false, M.Ev_succ (M.Ev_some fun k => ?_), M.Ev_succ (M.Ev_some fun k => ?_), ?_⟩
          · simp only [spec_isGood.l0, show (i : Int) < (l.length : Int) by omega, show (0 : Int) ≤ (i : Int) by omega, if_true, sp, hc, Option.bind_some, show ((i : Int) > 0) by omega, e, em, show (0 : Int) ≤ ((i - 1 : Nat) : Int) by omega, show ((i - 1 : Nat) : Int) < (l.length : Int) by omega, sm, sr, show (prk l (i - 1) ≥ prk l i) by omega]
          · simp only [impl_ArePlates.l0, show (i : Int) < (l.length : Int) by omega, show (0 : Int) ≤ (i : Int) by omega, if_true, ip, hc, Option.bind_some, show ((i : Int) > 0) by omega, e, em, show (0 : Int) ≤ ((i - 1 : Nat) : Int) by omega, show ((i - 1 : Nat) : Int) < (l.length : Int) by omega, im, ir, show (prk l (i - 1) ≥ prk l i) by omega, Bool.false_and]
          · simp only [Bool.false_eq_true, false_iff]
            rintro ⟨x, y⟩
            have := y (i - 1) (by omega) (by omega)
            rw [ei] at this
            exact hr this
    · refine ⟨false, M.Ev_succ (M.Ev_some fun k => ?_), M.Ev_succ (M.Ev_some fun k => ?_), ?_⟩
      · simp only [spec_isGood.l0, show (i : Int) < (l.length : Int) by omega, show (0 : Int) ≤ (i : Int) by omega, if_true, sp, hc, Option.bind_some, Bool.false_eq_true, if_false]
      · simp only [impl_ArePlates.l0, show (i : Int) < (l.length : Int) by omega, show (0 : Int) ≤ (i : Int) by omega, if_true, ip, hc, Option.bind_some, Bool.false_eq_true, if_false, Bool.false_and]
      · simp only [Bool.false_eq_true, false_iff]
        rintro ⟨x, _⟩
        exact hc (x i (by omega) (by omega))
theorem good_both (l : List S26) (hl : l.length ≤ 9000000000000000000) : ∃ b : Bool, Ev (fun k => spec_isGood.f k l) b ∧ Ev (fun k => impl_ArePlates.f k l) b ∧ (b = true ↔ Good l) := by
  obtain ⟨b, h1, h2, h3⟩ := good_loops l hl l.length 0 (by omega) (by omega) (fun h => by omega)
  refine ⟨b && decide (1 ≤ l.length ∧ l.length ≤ 60), ?_, ?_, ?_⟩
  · unfold spec_isGood.f
    rw [spec_l1In_eq]
    simp only [Option.bind_some]
    by_cases c : 1 ≤ l.length ∧ l.length ≤ 60
    · have c' : (1 : Int) ≤ (l.length : Int) ∧ (l.length : Int) ≤ 60 := by omega
      simp only [c, c', and_self, decide_true, if_true, Bool.and_true]
      exact h1
    · have c' : ¬ ((1 : Int) ≤ (l.length : Int) ∧ (l.length : Int) ≤ 60) := by omega
      simp only [c, c', decide_false, Bool.and_false]
      exact M.Ev_some fun k => by simp
  · unfold impl_ArePlates.f; exact h2
  · unfold Good
    simp only [Bool.and_eq_true, decide_eq_true_eq, h3]
    constructor
    · rintro ⟨⟨x, y⟩, a, b⟩
      exact ⟨a, b, fun i h => x i (by omega) h, fun i h => y i (by omega) h⟩
    · rintro ⟨a, b, x, y⟩
      exact ⟨⟨fun i _ h => x i h, fun i _ h => y i h⟩, a, b⟩
theorem good_mono {l : List S26} (h : Good l) : ∀ (d i : Nat), i + 1 + d < l.length → prk l i < prk l (i + 1 + d) := by
  intro d
  induction d with
  | zero => intro i hi; exact h.2.2.2 i hi
  | succ d ih =>
    intro i hi
    have a := ih i (by omega)
    have b := h.2.2.2 (i + 1 + d) (by omega)
    have e : i + 1 + (d + 1) = i + 1 + d + 1 := by omega
    rw [e]
    omega
theorem good_lt {l : List S26} (h : Good l) {i j : Nat} (hij : i < j) (hj : j < l.length) : prk l i < prk l j := by
  have := good_mono h (j - i - 1) i (by omega)
  have e : i + 1 + (j - i - 1) = j := by omega
  rwa [e] at this
theorem isPlace_loop (l : List S26) (hg : Good l) (a b : Int) (hp : M.plateB a b = true) : ∀ (d i : Nat), i ≤ l.length → l.length - i = d → (∀ j, j < i → prk l j < M.rank a b) →
    ∃ m : Nat, i ≤ m ∧ m ≤ l.length ∧ (∀ j, j < m → prk l j < M.rank a b) ∧ (m < l.length → M.rank a b ≤ prk l m) ∧ Ev (fun k => spec_isPlace.l0 k l (i : Int) a b) ((m : Int), decide (m < l.length ∧ pn l m = a ∧ pl l m = b)) := by
  intro d
  induction d with
  | zero =>
    intro i hi hd hj
    have hil : ¬ i < l.length := by omega
    refine ⟨i, Nat.le_refl _, hi, hj, fun h => by omega, M.Ev_succ (M.Ev_some fun k => ?_)⟩
    simp only [spec_isPlace.l0]
    rw [if_neg (by omega), decide_eq_false (fun z => hil z.1)]
  | succ d ih =>
    intro i hi hd hj
    have hil : i < l.length := by omega
    have hc := hg.2.2.1 i hil
    have e : wrap64 ((i : Int) + 1) = ((i + 1 : Nat) : Int) := by
      have := hg.2.1
      rw [M.w64 (by omega) (by omega)]; omega
    have sr : spec_isRank.f ((rd_T26 l (i : Int)).f0) ((rd_T26 l (i : Int)).f1) = some (prk l i) := spec_isRank_eq hc
    by_cases hr : prk l i < M.rank a b
    · obtain ⟨m, h1, h2, h3, h4, h5⟩ := ih (i + 1) (by omega) (by omega) (fun j hj' => by
        by_cases q : j = i
        · rw [q]; exact hr
        · exact hj j (by omega))
      refine ⟨m, by omega, h2, h3, h4, M.Ev_succ ?_⟩
      simp only [spec_isPlace.l0, show (i : Int) < (l.length : Int) by omega, show (0 : Int) ≤ (i : Int) by omega, if_true, sr, spec_isRank_eq hp, Option.bind_some, hr, e]
      exact h5
    · refine ⟨i, Nat.le_refl _, hi, hj, fun _ => by omega, M.Ev_succ (M.Ev_some fun k => ?_)⟩
      simp only [spec_isPlace.l0, show (i : Int) < (l.length : Int) by omega, show (0 : Int) ≤ (i : Int) by omega, if_true, sr, spec_isRank_eq hp, Option.bind_some, hr, if_false, Option.some.injEq, Prod.mk.injEq, true_and]
      show (pn l i == a && (pl l i == b)) = decide (i < l.length ∧ pn l i = a ∧ pl l i = b)
      rw [Bool.eq_iff_iff]
      simp [hil]
theorem isPlace_ev (l : List S26) (hg : Good l) (a b : Int) (hp : M.plateB a b = true) :
    ∃ m : Nat, m ≤ l.length ∧ (∀ j, j < m → prk l j < M.rank a b) ∧ (m < l.length → M.rank a b ≤ prk l m) ∧ Ev (fun k => spec_isPlace.f k l a b) ((m : Int), decide (m < l.length ∧ pn l m = a ∧ pl l m = b)) := by
  obtain ⟨m, _, h2, h3, h4, h5⟩ := isPlace_loop l hg a b hp l.length 0 (by omega) (by omega) (fun j hj => by omega)
  exact ⟨m, h2, h3, h4, h5⟩
/-- A plate is in a list where it stands in its place, and only there. -/
theorem place_of {l : List S26} (hg : Good l) {a b : Int} {m : Nat} (h3 : ∀ j, j < m → prk l j < M.rank a b) (h4 : m < l.length → M.rank a b ≤ prk l m) {j : Nat} (hj : j < l.length) (e : pn l j = a ∧ pl l j = b) : j = m := by
  have er : prk l j = M.rank a b := by unfold prk; rw [e.1, e.2]
  by_cases c : j < m
  · have := h3 j c; omega
  · by_cases c2 : m < j
    · have := good_lt hg c2 hj
      have := h4 (by omega)
      omega
    · omega
theorem rdT_get {l : List S26} {i : Nat} (h : i < l.length) : rd_T26 l (i : Int) = l[i] := by
  unfold rd_T26
  rw [Int.toNat_natCast, List.getD_eq_getElem?_getD, List.getElem?_eq_getElem h]; rfl
/-- The elements of a list are plates. -/
def Plates (l : List S26) : Prop := ∀ x ∈ l, M.plateB x.f0 x.f1 = true
/-- They are strictly one behind the other. -/
def Rising (l : List S26) : Prop := l.Pairwise (fun x y => M.rank x.f0 x.f1 < M.rank y.f0 y.f1)
theorem prk_get {l : List S26} {j : Nat} (hj : j < l.length) : prk l j = M.rank l[j].f0 l[j].f1 := by
  unfold prk pn pl
  rw [rdT_get hj]
theorem good_iff (l : List S26) : Good l ↔ 1 ≤ l.length ∧ l.length ≤ 60 ∧ Plates l ∧ Rising l := by
  constructor
  · intro h
    refine ⟨h.1, h.2.1, fun x hx => ?_, ?_⟩
    · obtain ⟨j, hj, rfl⟩ := List.getElem_of_mem hx
      have := h.2.2.1 j hj
      unfold pn pl at this
      rwa [rdT_get hj] at this
    · unfold Rising
      rw [List.pairwise_iff_getElem]
      intro i j hi hj hij
      rw [← prk_get hi, ← prk_get hj]
      exact good_lt h hij hj
  · rintro ⟨h1, h2, h3, h4⟩
    refine ⟨h1, h2, fun i hi => ?_, fun i hi => ?_⟩
    · unfold pn pl
      rw [rdT_get hi]
      exact h3 _ (List.getElem_mem hi)
    · unfold Rising at h4
      rw [List.pairwise_iff_getElem] at h4
      rw [prk_get (by omega), prk_get hi]
      exact h4 i (i + 1) (by omega) hi (by omega)
theorem rising_nodup {l : List S26} (h : Rising l) : l.Nodup := by
  refine List.Pairwise.imp (fun {a b} hab e => ?_) h
  rw [e] at hab
  omega
theorem rk_eq {x : S26} (h : M.plateB x.f0 x.f1 = true) : impl_Plate_60.rk x = M.rank x.f0 x.f1 := by
  have h' := M.plateB_iff.1 h
  unfold impl_Plate_60.rk M.rank
  rw [M.w64 (x := x.f0 * 27) (by omega) (by omega), M.w64 (by omega) (by omega)]
theorem plate_ext {x y : S26} (hx : M.plateB x.f0 x.f1 = true) (hy : M.plateB y.f0 y.f1 = true) (e : M.rank x.f0 x.f1 = M.rank y.f0 y.f1) : x = y := by
  obtain ⟨e0, e1⟩ := M.rank_inj hx hy e
  cases x; cases y
  simp only at e0 e1
  rw [e0, e1]
/-- There is one way alone to lay plates one behind the other. -/
theorem sorted_eq {l m : List S26} (hp : m.Perm l) (hm : Plates m) (hr : Rising m) : impl_Plate_60.sorted l = m := by
  obtain ⟨h1, h2⟩ := impl_Plate_60.sorts l
  have h3 := h1.trans hp.symm
  refine List.Perm.eq_of_pairwise (le := fun x y => impl_Plate_60.rk x ≤ impl_Plate_60.rk y) (fun a b ha hb hab hba => ?_) h2 ?_ h3
  · have pa := hm a (h3.mem_iff.1 ha)
    have pb := hm b hb
    rw [rk_eq pa, rk_eq pb] at hab hba
    exact plate_ext pa pb (by omega)
  · refine List.Pairwise.imp_of_mem (fun {a b} ha hb hab => ?_) hr
    rw [rk_eq (hm a ha), rk_eq (hm b hb)]
    omega
noncomputable instance memDec (x : S26) (l : List S26) : Decidable (x ∈ l) := Classical.propDecidable _
theorem sortF_eq (l : List S26) (h0 : 0 < l.length) (h1 : l.length ≤ 1000000) (n : Int) : impl_Plate_60.f l n = some (impl_Plate_60.sorted l) := by
  unfold impl_Plate_60.f
  rw [if_pos ⟨h0, by omega⟩]
theorem sorted_length (l : List S26) : (impl_Plate_60.sorted l).length = l.length := (impl_Plate_60.sorts l).1.length_eq
noncomputable def checkR (l : List S26) : List S26 × Bool := if Good (impl_Plate_60.sorted l) then (impl_Plate_60.sorted l, true) else ([], false)
theorem checkR_length (l : List S26) : (checkR l).1.length ≤ 60 := by
  unfold checkR
  split
  · rename_i h; exact h.2.1
  · simp
/-- checkedPlates: the list in its order, if that is good. -/
theorem checked_ev (l : List S26) (h0 : 0 < l.length) (h1 : l.length ≤ 1000000) : Ev (fun k => impl_checkedPlates.f k l) (checkR l) := by
  unfold impl_checkedPlates.f checkR
  simp only [sortF_eq l h0 h1, Option.bind_some]
  obtain ⟨b, _, h2, h3⟩ := good_both (impl_Plate_60.sorted l) (by rw [sorted_length]; omega)
  refine Ev.bind h2 (M.Ev_some fun k => ?_)
  cases b with
  | true => rw [if_pos rfl, if_pos (h3.1 rfl)]
  | false => rw [if_neg (by simp), if_neg (fun z => by simpa using h3.2 z)]
theorem take_of {l : List S26} {m : Nat} {x : S26} (h : x ∈ l.take m) : ∃ j, j < m ∧ ∃ hj : j < l.length, l[j] = x := by
  obtain ⟨j, hj, e⟩ := List.getElem_of_mem h
  rw [List.length_take] at hj
  exact ⟨j, by omega, by omega, by rw [← e]; simp⟩
theorem drop_of {l : List S26} {m : Nat} {x : S26} (h : x ∈ l.drop m) : ∃ j, m ≤ j ∧ ∃ hj : j < l.length, l[j] = x := by
  obtain ⟨j, hj, e⟩ := List.getElem_of_mem h
  rw [List.length_drop] at hj
  exact ⟨m + j, by omega, by omega, by rw [← e]; simp⟩
/-- A plate that is not there, put in in its place. -/
theorem put_rising {l : List S26} (hg : Good l) {a b : Int} (hp : M.plateB a b = true) {m : Nat} (hm : m ≤ l.length) (h3 : ∀ j, j < m → prk l j < M.rank a b) (h4 : m < l.length → M.rank a b ≤ prk l m) (hn : ¬ (m < l.length ∧ pn l m = a ∧ pl l m = b)) :
    Plates (l.take m ++ ⟨a, b⟩ :: l.drop m) ∧ Rising (l.take m ++ ⟨a, b⟩ :: l.drop m) := by
  obtain ⟨_, _, g3, g4⟩ := (good_iff l).1 hg
  have hlt : ∀ j, m ≤ j → (hj : j < l.length) → M.rank a b < prk l j := by
    intro j hmj hj
    have h5 := h4 (by omega)
    have h6 : M.rank a b ≠ prk l m := fun e => by
      have hml : m < l.length := by omega
      obtain ⟨e1, e2⟩ := M.rank_inj hp (hg.2.2.1 m hml) e
      exact hn ⟨hml, e1.symm, e2.symm⟩
    by_cases c : j = m
    · subst c; omega
    · have := good_lt hg (i := m) (j := j) (by omega) hj
      omega
  refine ⟨fun x hx => ?_, ?_⟩
  · rcases List.mem_append.1 hx with h | h
    · exact g3 x (List.mem_of_mem_take h)
    · rcases List.mem_cons.1 h with rfl | h
      · exact hp
      · exact g3 x (List.mem_of_mem_drop h)
  · unfold Rising
    rw [List.pairwise_append, List.pairwise_cons]
    refine ⟨List.Pairwise.sublist (List.take_sublist m l) g4, ⟨fun y hy => ?_, List.Pairwise.sublist (List.drop_sublist m l) g4⟩, fun x hx y hy => ?_⟩
    · obtain ⟨j, hmj, hj, rfl⟩ := drop_of hy
      have := hlt j hmj hj
      rw [prk_get hj] at this
      exact this
    · obtain ⟨i, him, hi, rfl⟩ := take_of hx
      have h5 := h3 i him
      rw [prk_get hi] at h5
      rcases List.mem_cons.1 hy with rfl | hy
      · exact h5
      · obtain ⟨j, hmj, hj, rfl⟩ := drop_of hy
        have := hlt j hmj hj
        rw [prk_get hj] at this
        omega
/-- The reference puts a plate in as the program does. -/
theorem isAdd_ev (l : List S26) (hg : Good l) (a b : Int) (hp : M.plateB a b = true) : Ev (fun k => spec_isAdd.f k l a b) (checkR (l ++ [⟨a, b⟩])) := by
  obtain ⟨m, h2, h3, h4, h5⟩ := isPlace_ev l hg a b hp
  have hl60 := hg.2.1
  unfold spec_isAdd.f
  refine Ev.bind h5 (M.Ev_some fun k => ?_)
  by_cases c : m < l.length ∧ pn l m = a ∧ pl l m = b
  · simp only [c, and_self, decide_true, if_true]
    unfold checkR
    rw [if_neg]
    intro hb
    have hnd := rising_nodup ((good_iff _).1 hb).2.2.2
    rw [(impl_Plate_60.sorts _).1.nodup_iff, List.nodup_append] at hnd
    have hmem : (⟨a, b⟩ : S26) ∈ l := by
      have e1 : l[m]'c.1 = ⟨a, b⟩ := by
        have e0 := c.2
        unfold pn pl at e0
        rw [rdT_get c.1] at e0
        cases hx : l[m]'c.1
        rw [hx] at e0
        simp only at e0
        rw [e0.1, e0.2]
      rw [← e1]
      exact List.getElem_mem _
    exact hnd.2.2 _ hmem _ (by simp) rfl
  · simp only [c, decide_false, Bool.false_eq_true, if_false]
    by_cases c6 : l.length = 60
    · rw [if_pos (by omega)]
      unfold checkR
      rw [if_neg]
      intro hb
      have := hb.2.1
      rw [sorted_length] at this
      simp at this
      omega
    · obtain ⟨p1, p2⟩ := put_rising hg hp h2 h3 h4 c
      have hperm : (l.take m ++ ⟨a, b⟩ :: l.drop m).Perm (l ++ [⟨a, b⟩]) := by
        have e1 : (l.take m ++ ⟨a, b⟩ :: l.drop m).Perm (⟨a, b⟩ :: (l.take m ++ l.drop m)) := List.perm_middle
        rw [List.take_append_drop] at e1
        have e2 := List.perm_append_comm (l₁ := [(⟨a, b⟩ : S26)]) (l₂ := l)
        rw [List.singleton_append] at e2
        exact e1.trans e2
      have hs := sorted_eq hperm p1 p2
      have hgood : Good (l.take m ++ ⟨a, b⟩ :: l.drop m) := (good_iff _).2 ⟨by simp; omega, by simp; omega, p1, p2⟩
      unfold checkR
      rw [hs, if_pos hgood, if_neg (by omega)]
      simp only [Option.bind_some, List.length_nil, Nat.zero_add, List.nil_append, List.length_singleton, Int.toNat_natCast]
      rw [if_pos (by omega), if_pos (by omega), if_pos (by rw [List.length_take]; omega), if_pos (by simp; omega), if_pos (by simp; omega)]
      simp
theorem clonePlates_eq (l : List S26) (h : l.length ≤ 1000000) : impl_Plate_41.f l = some l := by
  unfold impl_Plate_41.f
  simp only [Option.bind_some, List.length_nil, Nat.zero_add, List.nil_append]
  rw [if_pos (by omega)]
theorem added_ev (l : List S26) (hl : l.length ≤ 60) (a b : Int) : Ev (fun k => impl_addedPlate.f k l a b) (checkR (l ++ [⟨a, b⟩])) := by
  unfold impl_addedPlate.f
  simp only [clonePlates_eq l (by omega), Option.bind_some, List.length_singleton, show l.length + 1 < 8796093022208 by omega, if_true]
  exact Ev.bind (checked_ev _ (by simp) (by simp; omega)) (M.Ev_some fun k => rfl)
noncomputable def addP (l : List S26) (a b : Int) : List S26 × Bool := if Good l ∧ M.plateB a b = true then checkR (l ++ [⟨a, b⟩]) else ([], false)
theorem addP_length (l : List S26) (a b : Int) : (addP l a b).1.length ≤ 60 := by
  unfold addP
  split
  · exact checkR_length _
  · simp
/-- AddPlate: both give the list with the plate in its place. -/
theorem AddPlate_ev (l : List S26) (hl : l.length ≤ 1000000000000) (a b : Int) : Ev (fun k => spec_AddPlate.f k l a b) (addP l a b) ∧ Ev (fun k => impl_AddPlate.f k l a b) (addP l a b) := by
  obtain ⟨g, h1, h2, h3⟩ := good_both l (by omega)
  unfold spec_AddPlate.f impl_AddPlate.f addP
  cases g with
  | false =>
    have hg : ¬ Good l := fun z => by simpa using h3.2 z
    simp only [hg, false_and, if_false]
    exact ⟨Ev.bind h1 (M.Ev_some fun k => rfl), Ev.bind h2 (M.Ev_some fun k => rfl)⟩
  | true =>
    have hg : Good l := h3.1 rfl
    by_cases hp : M.plateB a b = true
    · simp only [hg, hp, and_self, if_true]
      refine ⟨Ev.bind h1 ?_, Ev.bind h2 ?_⟩
      · simp only [if_true, spec_isPlate_eq, hp, Option.bind_some]
        exact Ev.bind (isAdd_ev l hg a b hp) (M.Ev_some fun k => rfl)
      · simp only [if_true, impl_IsPlate_eq, hp, Option.bind_some]
        exact Ev.bind (added_ev l hg.2.1 a b) (M.Ev_some fun k => rfl)
    · simp only [hp, and_false, if_false]
      refine ⟨Ev.bind h1 (M.Ev_some fun k => ?_), Ev.bind h2 (M.Ev_some fun k => ?_)⟩
      · simp [spec_isPlate_eq, hp]
      · simp [impl_IsPlate_eq, hp]
theorem checkR_true {l : List S26} (h : (checkR l).2 = true) : Good (checkR l).1 ∧ (checkR l).1 = impl_Plate_60.sorted l ∧ checkR l = ((checkR l).1, true) := by
  unfold checkR at h ⊢
  split at h
  · rename_i c
    rw [if_pos c]
    exact ⟨c, rfl, rfl⟩
  · cases h
theorem isAdd_ok (L : List S26) (hg : Good L) (x y : Int) (hp : M.plateB x y = true) : ∃ r : List S26 × Bool, Ev (fun k => spec_isAdd.f k L x y) r ∧ (r.2 = true → Good r.1) := ⟨_, isAdd_ev L hg x y hp, fun h => (checkR_true h).1⟩
theorem u64_range (z : Int) : 0 ≤ IntKind.u64.wrap z ∧ IntKind.u64.wrap z < 18446744073709551616 := by
  simp [IntKind.wrap, IntKind.bits, IntKind.signed]
  omega
theorem and255 (z : Int) (h0 : 0 ≤ z) (h1 : z < 18446744073709551616) : 0 ≤ Go.bits .and .u64 z 255 ∧ Go.bits .and .u64 z 255 ≤ 255 := by
  obtain ⟨n, rfl⟩ := Int.eq_ofNat_of_zero_le h0
  rw [show (255 : Int) = ((255 : Nat) : Int) from rfl, bits_and_u64_nat _ _ (by omega) (by omega)]
  have := @Nat.and_le_right n 255
  omega
/-- Bytes, as numbers. -/
def InB (l : List Int) : Prop := ∀ x ∈ l, 0 ≤ x ∧ x ≤ 255
theorem rd_byte {l : List Int} (hl : InB l) {i : Int} (h1 : i < (l.length : Int)) (h0 : 0 ≤ i) : 0 ≤ rd l i ∧ rd l i ≤ 255 := by
  unfold rd
  rw [List.getD_eq_getElem?_getD, List.getElem?_eq_getElem (by omega)]
  exact hl _ (List.getElem_mem _)
theorem next_ok {l : List Int} (hl : InB l) {a : Int} (h0 : 0 ≤ a) (h1 : a ≤ 100000) (s : Int) : ∃ x s', spec_l1Cur_next.f l a s = some (x, a + 1, s') ∧ 0 ≤ x ∧ x ≤ 255 := by
  have e : wrap64 (a + 1) = a + 1 := M.w64 (by omega) (by omega)
  unfold spec_l1Cur_next.f
  rw [e]
  by_cases c : a < (l.length : Int)
  · have hb := rd_byte hl c h0
    rw [if_pos c, if_pos h0, M.w64 (x := rd l a) (by omega) (by omega), if_pos (by omega)]
    exact ⟨_, _, rfl, hb.1, hb.2⟩
  · rw [if_neg c, if_neg (by omega)]
    have g : ∀ y : Int, 0 ≤ wrap64 (Go.bits .and .u64 (IntKind.u64.wrap y / 1099511627776) 255) ∧ wrap64 (Go.bits .and .u64 (IntKind.u64.wrap y / 1099511627776) 255) ≤ 255 := by
      intro y
      have h := u64_range y
      have h2 := and255 (IntKind.u64.wrap y / 1099511627776) (by omega) (by omega)
      rw [M.w64 (by omega) (by omega)]
      exact h2
    exact ⟨_, _, rfl, g _⟩
theorem pick_ok {l : List Int} (hl : InB l) {a : Int} (h0 : 0 ≤ a) (h1 : a ≤ 90000) (s n : Int) : ∃ x a' s', spec_l1Cur_pick.f l a s n = some (x, a', s') ∧ 0 ≤ x ∧ (1 ≤ n → x < n) ∧ a ≤ a' ∧ a' ≤ a + 2 := by
  unfold spec_l1Cur_pick.f
  by_cases c : n ≤ 1
  · rw [if_pos c]
    exact ⟨_, _, _, rfl, by omega, by omega, by omega, by omega⟩
  · obtain ⟨x, s1, e1, hx0, hx1⟩ := next_ok hl h0 (by omega) s
    rw [if_neg c, e1]
    simp only [Option.bind_some]
    by_cases c2 : n > 200
    · obtain ⟨y, s2, e2, hy0, hy1⟩ := next_ok hl (a := a + 1) (by omega) (by omega) s1
      rw [if_pos c2, e2]
      simp only [Option.bind_some]
      rw [if_neg (by omega), M.w64 (x := x * 256) (by omega) (by omega), M.w64 (x := x * 256 + y) (by omega) (by omega)]
      exact ⟨_, _, _, rfl, Int.tmod_nonneg _ (by omega), fun _ => Int.tmod_lt_of_pos _ (by omega), by omega, by omega⟩
    · rw [if_neg c2, if_neg (by omega)]
      exact ⟨_, _, _, rfl, Int.tmod_nonneg _ (by omega), fun _ => Int.tmod_lt_of_pos _ (by omega), by omega, by omega⟩
theorem among_ok {l : List Int} (hl : InB l) {a : Int} (h0 : 0 ≤ a) (h1 : a ≤ 90000) (s : Int) (m : List Int) (hm : 1 ≤ m.length) : ∃ x a' s', spec_l1Cur_among.f l a s m = some (x, a', s') ∧ x ∈ m ∧ a ≤ a' ∧ a' ≤ a + 2 := by
  obtain ⟨x, a1, s1, e, hx0, hx1, ha⟩ := pick_ok hl h0 h1 s (m.length : Int)
  unfold spec_l1Cur_among.f
  rw [e]
  simp only [Option.bind_some]
  rw [if_pos hx0, if_pos (hx1 (by omega))]
  refine ⟨_, _, _, rfl, ?_, ha⟩
  unfold rd
  have := hx1 (by omega)
  rw [List.getD_eq_getElem?_getD, List.getElem?_eq_getElem (by omega)]
  exact List.getElem_mem _
theorem one_ok {l : List Int} (hl : InB l) {a : Int} (h0 : 0 ≤ a) (h1 : a ≤ 90000) (s n : Int) : ∃ b a' s', spec_l1Cur_one.f l a s n = some (b, a', s') ∧ a ≤ a' ∧ a' ≤ a + 2 := by
  obtain ⟨x, a1, s1, e, _, _, ha⟩ := pick_ok hl h0 h1 s n
  unfold spec_l1Cur_one.f
  rw [e]
  exact ⟨_, _, _, rfl, ha⟩
/-! ### Plates that are drawn -/
theorem surePlate_ok {l : List Int} (hl : InB l) {a : Int} (h0 : 0 ≤ a) (h1 : a ≤ 80000) (s : Int) : ∃ n p a' s', spec_l1Cur_surePlate.f l a s = some (n, p, a', s') ∧ M.plateB n p = true ∧ a ≤ a' ∧ a' ≤ a + 6 := by
  obtain ⟨b, a1, s1, e1, ha⟩ := one_ok hl h0 (by omega) s 10
  unfold spec_l1Cur_surePlate.f
  rw [e1]
  simp only [Option.bind_some]
  cases b with
  | true =>
    obtain ⟨x, a2, s2, e2, hx, hb⟩ := among_ok hl (a := a1) (by omega) (by omega) s1 [1, 9, 10, 9999] (by simp)
    obtain ⟨y, a3, s3, e3, hy, hc⟩ := among_ok hl (a := a2) (by omega) (by omega) s2 [0, 1, 25, 26] (by simp)
    simp only [if_true, e2, e3, Option.bind_some]
    refine ⟨x, y, a3, s3, rfl, M.plateB_iff.2 ?_, by omega, by omega⟩
    simp at hx hy
    omega
  | false =>
    obtain ⟨x, a2, s2, e2, hx0, hx1, hb⟩ := pick_ok hl (a := a1) (by omega) (by omega) s1 9
    obtain ⟨y, a3, s3, e3, hy, hc⟩ := among_ok hl (a := a2) (by omega) (by omega) s2 [0, 0, 1, 2, 3, 26] (by simp)
    have := hx1 (by omega)
    simp only [Bool.false_eq_true, if_false, e2, e3, Option.bind_some]
    rw [M.w64 (x := 1 + x) (by omega) (by omega)]
    refine ⟨1 + x, y, a3, s3, rfl, M.plateB_iff.2 ?_, by omega, by omega⟩
    simp at hy
    omega
theorem plate_ok {l : List Int} (hl : InB l) {a : Int} (h0 : 0 ≤ a) (h1 : a ≤ 70000) (s : Int) : ∃ n p a' s', spec_l1Cur_plate.f l a s = some (n, p, a', s') ∧ a ≤ a' ∧ a' ≤ a + 8 := by
  obtain ⟨b, a1, s1, e1, ha⟩ := one_ok hl h0 (by omega) s 14
  unfold spec_l1Cur_plate.f
  rw [e1]
  simp only [Option.bind_some]
  cases b with
  | true =>
    obtain ⟨x, a2, s2, e2, hx, hb⟩ := among_ok hl (a := a1) (by omega) (by omega) s1 [(-1), 0, 1, 9999, 10000, 4611686018427387904] (by simp)
    obtain ⟨y, a3, s3, e3, hy, hc⟩ := among_ok hl (a := a2) (by omega) (by omega) s2 [(-1), 0, 26, 27, 4611686018427387904] (by simp)
    simp only [if_true, e2, e3, Option.bind_some]
    exact ⟨x, y, a3, s3, rfl, by omega, by omega⟩
  | false =>
    obtain ⟨x, y, a2, s2, e2, _, hb⟩ := surePlate_ok hl (a := a1) (by omega) (by omega) s1
    simp only [Bool.false_eq_true, if_false, e2, Option.bind_some]
    exact ⟨x, y, a2, s2, rfl, by omega, by omega⟩
theorem good_one {n p : Int} (h : M.plateB n p = true) : Good [(⟨n, p⟩ : S26)] := by
  refine ⟨by simp, by simp, fun i hi => ?_, fun i hi => by simp at hi⟩
  obtain rfl : i = 0 := by simpa using hi
  exact h
theorem sures_loop {l : List Int} (hl : InB l) : ∀ (n : Nat) (L : List S26) (a s : Int), n ≤ 8 → Good L → 0 ≤ a → a + 6 * n ≤ 80000 → ∃ r a' s', Ev (fun k => spec_l1Cur_surePlates.l0 k L (n : Int) l a s) (r, a', s') ∧ Good r ∧ a ≤ a' ∧ a' ≤ a + 6 * n
  | 0, L, a, s, _, hg, _, _ => by
    refine ⟨L, a, s, M.Ev_succ (M.Ev_some fun k => ?_), hg, by omega, by omega⟩
    simp [spec_l1Cur_surePlates.l0]
  | n + 1, L, a, s, hn, hg, h0, h1 => by
    obtain ⟨x, y, a1, s1, e1, hp, ha⟩ := surePlate_ok hl h0 (by omega) s
    obtain ⟨r, hr, hr2⟩ := isAdd_ok L hg x y hp
    have en : wrap64 (((n + 1 : Nat) : Int) - 1) = (n : Int) := by rw [M.w64 (by omega) (by omega)]; omega
    have hpos : ((n + 1 : Nat) : Int) > 0 := by omega
    cases hb : r.2 with
    | true =>
      obtain ⟨q, a', s', hq, hgq, hc⟩ := sures_loop hl n r.1 a1 s1 (by omega) (hr2 hb) (by omega) (by omega)
      refine ⟨q, a', s', M.Ev_succ ?_, hgq, by omega, by omega⟩
      simp only [spec_l1Cur_surePlates.l0, if_pos hpos, e1, Option.bind_some, en]
      refine Ev.bind hr ?_
      simp only [hb, if_true]
      exact hq
    | false =>
      obtain ⟨q, a', s', hq, hgq, hc⟩ := sures_loop hl n L a1 s1 (by omega) hg (by omega) (by omega)
      refine ⟨q, a', s', M.Ev_succ ?_, hgq, by omega, by omega⟩
      simp only [spec_l1Cur_surePlates.l0, if_pos hpos, e1, Option.bind_some, en]
      refine Ev.bind hr ?_
      simp only [hb, Bool.false_eq_true, if_false]
      exact hq
theorem surePlates_ok {l : List Int} (hl : InB l) {a : Int} (h0 : 0 ≤ a) (h1 : a ≤ 70000) (s m : Int) (hm : 1 ≤ m ∧ m ≤ 8) : ∃ r a' s', Ev (fun k => spec_l1Cur_surePlates.f k l a s m) (r, a', s') ∧ Good r ∧ a ≤ a' ∧ a' ≤ a + 60 := by
  obtain ⟨x, y, a1, s1, e1, hp, ha⟩ := surePlate_ok hl h0 (by omega) s
  obtain ⟨z, a2, s2, e2, hz0, hz1, hb⟩ := pick_ok hl (a := a1) (by omega) (by omega) s1 m
  have := hz1 hm.1
  obtain ⟨n, rfl⟩ := Int.eq_ofNat_of_zero_le hz0
  obtain ⟨r, a', s', hr, hg, hc⟩ := sures_loop hl n [(⟨x, y⟩ : S26)] a2 s2 (by omega) (good_one hp) (by omega) (by omega)
  refine ⟨r, a', s', ?_, hg, by omega, by omega⟩
  unfold spec_l1Cur_surePlates.f
  simp only [e1, e2, Option.bind_some]
  exact hr
theorem plates_loop {l : List Int} (hl : InB l) : ∀ (d : Nat) (L : List S26) (a s : Int), L.length + d = 61 → 0 ≤ a → a + 2 * d ≤ 80000 → ∃ r a' s', Ev (fun k => spec_l1Cur_plates.l0 k L l a s) (r, a', s') ∧ r.length ≤ 61 ∧ a ≤ a' ∧ a' ≤ a + 2 * d + 2
  | 0, L, a, s, hL, h0, h1 => by
    obtain ⟨x, a1, s1, e1, hx0, hx1, ha⟩ := pick_ok hl h0 (by omega) s 2
    have := hx1 (by omega)
    refine ⟨L, a1, s1, M.Ev_succ (M.Ev_some fun k => ?_), by omega, by omega, by omega⟩
    simp only [spec_l1Cur_plates.l0, e1, Option.bind_some]
    rw [M.w64 (x := 60 + x) (by omega) (by omega), if_neg (by omega)]
  | d + 1, L, a, s, hL, h0, h1 => by
    obtain ⟨x, a1, s1, e1, hx0, hx1, ha⟩ := pick_ok hl h0 (by omega) s 2
    have := hx1 (by omega)
    by_cases c : (L.length : Int) < 60 + x
    · obtain ⟨r, a', s', hr, hq, hb⟩ := plates_loop hl d (L ++ [(⟨wrap64 (1 + (L.length : Int)), 0⟩ : S26)]) a1 s1 (by simp; omega) (by omega) (by omega)
      refine ⟨r, a', s', M.Ev_succ ?_, hq, by omega, by omega⟩
      simp only [spec_l1Cur_plates.l0, e1, Option.bind_some, M.w64 (x := 60 + x) (by omega) (by omega), if_pos c, if_pos (show L.length < 8796093022208 by omega)]
      exact hr
    · refine ⟨L, a1, s1, M.Ev_succ (M.Ev_some fun k => ?_), by omega, by omega, by omega⟩
      simp only [spec_l1Cur_plates.l0, e1, Option.bind_some]
      rw [M.w64 (x := 60 + x) (by omega) (by omega), if_neg c]
theorem plates_ok {l : List Int} (hl : InB l) {a : Int} (h0 : 0 ≤ a) (h1 : a ≤ 60000) (s : Int) : ∃ r a' s', Ev (fun k => spec_l1Cur_plates.f k l a s) (r, a', s') ∧ r.length ≤ 61 ∧ a ≤ a' ∧ a' ≤ a + 300 := by
  obtain ⟨L, a1, s1, e1, hg, ha⟩ := surePlates_ok hl h0 (by omega) s 8 (by omega)
  obtain ⟨z, a2, s2, e2, hz0, hz1, hb⟩ := pick_ok hl (a := a1) (by omega) (by omega) s1 16
  have hL := hg.2.1
  unfold spec_l1Cur_plates.f
  by_cases c0 : z = 0
  · refine ⟨[], a2, s2, Ev.bind e1 (M.Ev_some fun k => ?_), by simp, by omega, by omega⟩
    simp only [e2, Option.bind_some, if_pos c0]
  · by_cases c1 : z = 1
    · obtain ⟨x, y, a3, s3, e3, hc⟩ := plate_ok hl (a := a2) (by omega) (by omega) s2
      refine ⟨L ++ [(⟨x, y⟩ : S26)], a3, s3, Ev.bind e1 (M.Ev_some fun k => ?_), by simp; omega, by omega, by omega⟩
      simp only [e2, Option.bind_some, if_neg c0, if_pos c1, e3, if_pos (show L.length < 8796093022208 by omega)]
    · by_cases c2 : z = 2
      · obtain ⟨r, a', s', hr, hq, hc⟩ := plates_loop hl 61 [] a2 s2 (by simp) (by omega) (by omega)
        refine ⟨r, a', s', Ev.bind e1 ?_, hq, by omega, by omega⟩
        simp only [e2, Option.bind_some, if_neg c0, if_neg c1, if_pos c2]
        exact hr
      · refine ⟨L, a2, s2, Ev.bind e1 (M.Ev_some fun k => ?_), by omega, by omega, by omega⟩
        simp only [e2, Option.bind_some, if_neg c0, if_neg c1, if_neg c2]
theorem DrawPlaceOfPlate_ok {l : List Int} (hl : InB l) : ∃ L a b, Ev (fun k => spec_DrawPlaceOfPlate.f k l) (L, a, b) ∧ L.length ≤ 61 := by
  obtain ⟨L, a1, s1, e1, hL, ha, ha2⟩ := plates_ok hl (a := 0) (by omega) (by omega) 0
  have last : ∀ a2 s2, 0 ≤ a2 → a2 ≤ 70000 → ∃ x y, Ev (fun k => spec_DrawPlaceOfPlate.j0 k L false l a2 s2) (L, x, y) := fun a2 s2 h0 h1 => by
    obtain ⟨x, y, a3, s3, e3, hc⟩ := plate_ok hl h0 h1 s2
    refine ⟨x, y, M.Ev_succ (M.Ev_some fun k => ?_)⟩
    simp only [spec_DrawPlaceOfPlate.j0, Bool.false_eq_true, if_false, e3, Option.bind_some]
  unfold spec_DrawPlaceOfPlate.f
  by_cases c : (L.length : Int) > 0
  · obtain ⟨b, a2, s2, e2, hb, hb2⟩ := one_ok hl (a := a1) (by omega) (by omega) s1 2
    cases b with
    | true =>
      obtain ⟨x, a3, s3, e3, hx0, hx1, hc⟩ := pick_ok hl (a := a2) (by omega) (by omega) s2 (L.length : Int)
      have := hx1 (by omega)
      refine ⟨L, (rd_T26 L x).f0, (rd_T26 L x).f1, Ev.bind e1 ?_, hL⟩
      simp only [if_pos c, e2, Option.bind_some]
      refine M.Ev_succ (M.Ev_some fun k => ?_)
      simp only [spec_DrawPlaceOfPlate.j0, if_true, e3, Option.bind_some, if_pos hx0, if_pos this]
    | false =>
      obtain ⟨x, y, e3⟩ := last a2 s2 (by omega) (by omega)
      refine ⟨L, x, y, Ev.bind e1 ?_, hL⟩
      simp only [if_pos c, e2, Option.bind_some]
      exact e3
  · obtain ⟨x, y, e3⟩ := last a1 s1 (by omega) (by omega)
    refine ⟨L, x, y, Ev.bind e1 ?_, hL⟩
    simp only [if_neg c]
    exact e3
theorem if_ev {β : Type} {c : Prop} {g : Nat → Option β} {r : β} (h : c → Ev g r) : ∃ K, c → ∀ k, K ≤ k → g k = some r := by
  by_cases hc : c
  · obtain ⟨K, e⟩ := h hc
    exact ⟨K, fun _ => e⟩
  · exact ⟨0, fun h => absurd h hc⟩
theorem index_loop (l : List S26) (hl : l.length ≤ 1000000000000) (a b : Int) : ∀ (d i : Nat), i ≤ l.length → l.length - i = d → (∀ j, j < i → ¬ (pn l j = a ∧ pl l j = b)) →
    ∃ v : Int, Ev (fun k => impl_Plate_37.l0 k l (l.length : Int) (i : Int) a b) v ∧ ((v = -1 ∧ ∀ j, j < l.length → ¬ (pn l j = a ∧ pl l j = b)) ∨ ∃ m : Nat, m < l.length ∧ v = m ∧ (pn l m = a ∧ pl l m = b) ∧ ∀ j, j < m → ¬ (pn l j = a ∧ pl l j = b)) := by
  intro d
  induction d with
  | zero =>
    intro i hi hd hj
    refine ⟨-1, M.Ev_succ (M.Ev_some fun k => ?_), .inl ⟨rfl, fun j h => hj j (by omega)⟩⟩
    simp only [impl_Plate_37.l0]
    rw [if_neg (by omega)]
  | succ d ih =>
    intro i hi hd hj
    have e : wrap64 ((i : Int) + 1) = ((i + 1 : Nat) : Int) := by rw [M.w64 (by omega) (by omega)]; omega
    have et : (a == ((rd_T26 l (i : Int)).f0) && (b == ((rd_T26 l (i : Int)).f1))) = decide (pn l i = a ∧ pl l i = b) := by
      show (a == pn l i && (b == pl l i)) = _
      rw [Bool.eq_iff_iff]
      simp only [Bool.and_eq_true, beq_iff_eq, decide_eq_true_eq]
      exact ⟨fun z => ⟨z.1.symm, z.2.symm⟩, fun z => ⟨z.1.symm, z.2.symm⟩⟩
    by_cases c : pn l i = a ∧ pl l i = b
    · refine ⟨i, M.Ev_succ (M.Ev_some fun k => ?_), .inr ⟨i, by omega, rfl, c, hj⟩⟩
      simp only [impl_Plate_37.l0, show (i : Int) < (l.length : Int) by omega, show (0 : Int) ≤ (i : Int) by omega, if_true, et, decide_eq_true c]
    · obtain ⟨v, h1, h2⟩ := ih (i + 1) (by omega) (by omega) (fun j hj' => by
        by_cases q : j = i
        · rw [q]; exact c
        · exact hj j (by omega))
      refine ⟨v, M.Ev_succ ?_, h2⟩
      simp only [impl_Plate_37.l0, show (i : Int) < (l.length : Int) by omega, show (0 : Int) ≤ (i : Int) by omega, if_true, et, decide_eq_false c, Bool.false_eq_true, if_false, e]
      exact h1
theorem index_ev (l : List S26) (hl : l.length ≤ 1000000000000) (a b : Int) :
    ∃ v : Int, Ev (fun k => impl_Plate_37.f k l a b) v ∧ ((v = -1 ∧ ∀ j, j < l.length → ¬ (pn l j = a ∧ pl l j = b)) ∨ ∃ m : Nat, m < l.length ∧ v = m ∧ (pn l m = a ∧ pl l m = b) ∧ ∀ j, j < m → ¬ (pn l j = a ∧ pl l j = b)) :=
  index_loop l hl a b l.length 0 (by omega) (by omega) (fun j hj => by omega)
/-- PlaceOfPlate: both tell the index, and it is where the plate stands. -/
theorem PlaceOfPlate_ev (l : List S26) (hl : l.length ≤ 1000000000000) (a b : Int) : ∃ r : Int × Bool, Ev (fun k => spec_PlaceOfPlate.f k l a b) r ∧ Ev (fun k => impl_PlaceOfPlate.f k l a b) r ∧
    ((r = (0, false) ∧ (Good l → ∀ j, j < l.length → ¬ (pn l j = a ∧ pl l j = b))) ∨ (Good l ∧ ∃ m : Nat, m < l.length ∧ r = ((m : Int), true) ∧ pn l m = a ∧ pl l m = b)) := by
  obtain ⟨g, h1, h2, h3⟩ := good_both l (by omega)
  obtain ⟨v, hv, hv2⟩ := index_ev l hl a b
  unfold spec_PlaceOfPlate.f impl_PlaceOfPlate.f
  cases g with
  | false =>
    have hg : ¬ Good l := fun z => by simpa using h3.2 z
    exact ⟨(0, false), Ev.bind h1 (M.Ev_succ (M.Ev_some fun k => by simp [spec_PlaceOfPlate.j0])), Ev.bind hv (Ev.bind h2 (M.Ev_some fun k => rfl)), .inl ⟨rfl, fun z => absurd z hg⟩⟩
  | true =>
    have hg : Good l := h3.1 rfl
    by_cases hp : M.plateB a b = true
    · obtain ⟨m, m1, m2, m3, m4⟩ := isPlace_ev l hg a b hp
      by_cases c : m < l.length ∧ pn l m = a ∧ pl l m = b
      · have ev : v = (m : Int) := by
          rcases hv2 with ⟨_, hn⟩ | ⟨m', a1, a2, a3, a4⟩
          · exact absurd c.2 (hn m c.1)
          · rw [a2, place_of hg m2 m3 a1 a3]
        refine ⟨((m : Int), true), Ev.bind h1 ?_, Ev.bind hv (Ev.bind h2 (M.Ev_some fun k => ?_)), .inr ⟨hg, m, c.1, rfl, c.2.1, c.2.2⟩⟩
        · simp only [if_true, spec_isPlate_eq, hp, Option.bind_some, Bool.not_true]
          refine M.Ev_succ ?_
          simp only [spec_PlaceOfPlate.j0, Bool.false_eq_true, if_false]
          rw [decide_eq_true c] at m4
          exact Ev.bind m4 (M.Ev_some fun k => rfl)
        · rw [if_pos rfl, ev, if_neg (by omega)]
      · have hno : ∀ j, j < l.length → ¬ (pn l j = a ∧ pl l j = b) := fun j hj z => by
          have := place_of hg m2 m3 hj z
          subst this
          exact c ⟨hj, z⟩
        have ev : v = -1 := by
          rcases hv2 with ⟨a1, _⟩ | ⟨m', a1, a2, a3, a4⟩
          · exact a1
          · exact absurd a3 (hno m' a1)
        refine ⟨(0, false), Ev.bind h1 ?_, Ev.bind hv (Ev.bind h2 (M.Ev_some fun k => ?_)), .inl ⟨rfl, fun _ => hno⟩⟩
        · simp only [if_true, spec_isPlate_eq, hp, Option.bind_some, Bool.not_true]
          refine M.Ev_succ ?_
          simp only [spec_PlaceOfPlate.j0, Bool.false_eq_true, if_false]
          rw [decide_eq_false c] at m4
          exact Ev.bind m4 (M.Ev_some fun k => rfl)
        · rw [if_pos rfl, ev, if_pos (by omega)]
    · have hno : ∀ j, j < l.length → ¬ (pn l j = a ∧ pl l j = b) := fun j hj z => by
        have := hg.2.2.1 j hj
        rw [z.1, z.2] at this
        exact hp this
      have ev : v = -1 := by
        rcases hv2 with ⟨a1, _⟩ | ⟨m', a1, a2, a3, a4⟩
        · exact a1
        · exact absurd a3 (hno m' a1)
      refine ⟨(0, false), Ev.bind h1 ?_, Ev.bind hv (Ev.bind h2 (M.Ev_some fun k => ?_)), .inl ⟨rfl, fun _ => hno⟩⟩
      · simp only [if_true, spec_isPlate_eq, Option.bind_some]
        refine M.Ev_succ (M.Ev_some fun k => ?_)
        simp [spec_PlaceOfPlate.j0, hp]
      · rw [if_pos rfl, ev, if_pos (by omega)]
def cmpI (a b : Int) : Int := if a < b then -1 else if b < a then 1 else 0
theorem cmp_Compare_eq (x y : Int) : cmp_Compare_int.f x y = some (cmpI x y) := by
  unfold cmp_Compare_int.f cmp_isNaN_int.f cmpI
  simp only [Option.bind_some, bne_self_eq_false, Bool.false_eq_true, if_false, gt_iff_lt]
  repeat' split
  all_goals rfl
theorem cmpI_neg (a b : Int) : cmpI a b < 0 ↔ a < b := by
  unfold cmpI
  repeat' split
  all_goals omega
theorem comparePlates_eq {a b c d : Int} (h : M.plateB a b = true) (h' : M.plateB c d = true) : impl_comparePlates.f a b c d = some (cmpI (M.rank a b) (M.rank c d)) := by
  unfold impl_comparePlates.f
  rw [impl_rankOf_eq h, impl_rankOf_eq h']
  simp only [Option.bind_some, cmp_Compare_eq]
theorem search_loop (l : List S26) (hg : Good l) (a b : Int) (hp : M.plateB a b = true) : ∀ (d lo hi : Nat), hi - lo ≤ d → lo ≤ hi → hi ≤ l.length → (∀ t, t < lo → prk l t < M.rank a b) → (∀ t, hi ≤ t → t < l.length → M.rank a b ≤ prk l t) →
    ∃ (m : Nat) (q : Bool), m ≤ l.length ∧ (∀ t, t < m → prk l t < M.rank a b) ∧ (∀ t, m ≤ t → t < l.length → M.rank a b ≤ prk l t) ∧ Ev (fun k => impl_Plate_39.l0 k l (l.length : Int) (lo : Int) (hi : Int) a b) ((m : Int), q) := by
  have hl60 := hg.2.1
  intro d
  induction d with
  | zero =>
    intro lo hi hd hle hlen h1 h2
    obtain rfl : lo = hi := by omega
    by_cases c : lo < l.length
    · have cc := comparePlates_eq (hg.2.2.1 lo c) hp
      refine ⟨lo, (cmpI (prk l lo) (M.rank a b) == 0), hlen, h1, h2, M.Ev_succ (M.Ev_some fun k => ?_)⟩
      simp only [impl_Plate_39.l0, show ¬ ((lo : Int) < (lo : Int)) by omega, if_false, show (lo : Int) < (l.length : Int) by omega, show (0 : Int) ≤ (lo : Int) by omega, if_true]
      rw [show impl_comparePlates.f (rd_T26 l (lo : Int)).f0 (rd_T26 l (lo : Int)).f1 a b = _ from cc]
      rfl
    · refine ⟨lo, false, hlen, h1, h2, M.Ev_succ (M.Ev_some fun k => ?_)⟩
      simp only [impl_Plate_39.l0, show ¬ ((lo : Int) < (lo : Int)) by omega, if_false, show ¬ ((lo : Int) < (l.length : Int)) by omega]
  | succ d ih =>
    intro lo hi hd hle hlen h1 h2
    by_cases c0 : lo < hi
    · have em : wrap64 ((IntKind.u64.wrap (wrap64 ((lo : Int) + (hi : Int)))) / 2) = (((lo + hi) / 2 : Nat) : Int) := by
        rw [M.w64 (x := (lo : Int) + (hi : Int)) (by omega) (by omega), M.u64 (by omega) (by omega), M.w64 (by omega) (by omega)]; omega
      have hm : (lo + hi) / 2 < l.length := by omega
      have e1 : wrap64 ((((lo + hi) / 2 : Nat) : Int) + 1) = (((lo + hi) / 2 + 1 : Nat) : Int) := by rw [M.w64 (by omega) (by omega)]; omega
      have cc : impl_comparePlates.f (rd_T26 l (((lo + hi) / 2 : Nat) : Int)).f0 (rd_T26 l (((lo + hi) / 2 : Nat) : Int)).f1 a b = some (cmpI (prk l ((lo + hi) / 2)) (M.rank a b)) := comparePlates_eq (hg.2.2.1 _ hm) hp
      by_cases cr : prk l ((lo + hi) / 2) < M.rank a b
      · obtain ⟨m, q, g1, g2, g3, g4⟩ := ih ((lo + hi) / 2 + 1) hi (by omega) (by omega) hlen (fun t ht => by
          by_cases q : t = (lo + hi) / 2
          · rw [q]; exact cr
          · have := good_lt hg (i := t) (j := (lo + hi) / 2) (by omega) hm
            omega) h2
        refine ⟨m, q, g1, g2, g3, M.Ev_succ ?_⟩
        simp only [impl_Plate_39.l0, show (lo : Int) < (hi : Int) by omega, if_true, em, show (0 : Int) ≤ (((lo + hi) / 2 : Nat) : Int) by omega, show (((lo + hi) / 2 : Nat) : Int) < (l.length : Int) by omega, cc, Option.bind_some, (cmpI_neg _ _).2 cr, e1]
        exact g4
      · obtain ⟨m, q, g1, g2, g3, g4⟩ := ih lo ((lo + hi) / 2) (by omega) (by omega) (by omega) h1 (fun t ht ht2 => by
          by_cases q : t = (lo + hi) / 2
          · rw [q]; omega
          · have := good_lt hg (i := (lo + hi) / 2) (j := t) (by omega) ht2
            omega)
        refine ⟨m, q, g1, g2, g3, M.Ev_succ ?_⟩
        have ncr : ¬ cmpI (prk l ((lo + hi) / 2)) (M.rank a b) < 0 := fun z => cr ((cmpI_neg _ _).1 z)
        simp only [impl_Plate_39.l0, show (lo : Int) < (hi : Int) by omega, if_true, em, show (0 : Int) ≤ (((lo + hi) / 2 : Nat) : Int) by omega, show (((lo + hi) / 2 : Nat) : Int) < (l.length : Int) by omega, cc, Option.bind_some, ncr, if_false]
        exact g4
    · obtain ⟨m, q, g1, g2, g3, g4⟩ := ih lo hi (by omega) hle hlen h1 h2
      exact ⟨m, q, g1, g2, g3, g4⟩
/-- PartPlates: both part the list where the plate stands or would stand. -/
theorem PartPlates_ev (l : List S26) (hl : l.length ≤ 1000000000000) (a b : Int) : ∃ r : List S26 × List S26 × Bool, Ev (fun k => spec_PartPlates.f k l a b) r ∧ Ev (fun k => impl_PartPlates.f k l a b) r ∧
    (r = ([], [], false) ∨ (Good l ∧ M.plateB a b = true ∧ ∃ m : Nat, 0 < m ∧ m < l.length ∧ (∀ j, j < m → prk l j < M.rank a b) ∧ M.rank a b ≤ prk l m ∧ r = (l.take m, l.drop m, true))) := by
  obtain ⟨g, h1, h2, h3⟩ := good_both l (by omega)
  unfold spec_PartPlates.f impl_PartPlates.f
  cases g with
  | false =>
    exact ⟨([], [], false), Ev.bind h1 (M.Ev_succ (M.Ev_some fun k => by simp [spec_PartPlates.j0])), Ev.bind h2 (M.Ev_succ (M.Ev_some fun k => by simp [impl_PartPlates.j0])), .inl rfl⟩
  | true =>
    have hg : Good l := h3.1 rfl
    have hl60 := hg.2.1
    by_cases hp : M.plateB a b = true
    · obtain ⟨m, m1, m2, m3, m4⟩ := isPlace_ev l hg a b hp
      obtain ⟨n, q, n1, n2, n3, n4⟩ := search_loop l hg a b hp l.length 0 l.length (by omega) (by omega) (by omega) (fun t ht => by omega) (fun t ht ht2 => by omega)
      have enm : n = m := by
        by_cases c : n < m
        · have := m2 n c
          have := n3 n (Nat.le_refl _) (by omega)
          omega
        · by_cases c2 : m < n
          · have := n2 m c2
            have := m3 (by omega)
            omega
          · omega
      subst enm
      have hs : Ev (fun k => impl_Plate_39.f k l a b 7777040) ((n : Int), q) := n4
      by_cases c : 0 < n ∧ n < l.length
      · refine ⟨(l.take n, l.drop n, true), Ev.bind h1 ?_, Ev.bind h2 ?_, .inr ⟨hg, hp, n, c.1, c.2, m2, m3 c.2, rfl⟩⟩
        · simp only [if_true, spec_isPlate_eq, hp, Option.bind_some, Bool.not_true]
          refine M.Ev_succ ?_
          simp only [spec_PartPlates.j0, Bool.false_eq_true, if_false]
          refine Ev.bind m4 (M.Ev_some fun k => ?_)
          rw [if_neg (by omega), if_neg (by omega)]
          simp only [Option.bind_some, Int.toNat_natCast, List.length_nil, Nat.zero_add, List.nil_append]
          rw [if_pos (by omega), if_pos (by omega), if_pos (by rw [List.length_take]; omega), if_pos (by rw [List.length_drop]; omega)]
        · simp only [if_true, impl_IsPlate_eq, hp, Option.bind_some, Bool.not_true]
          refine M.Ev_succ ?_
          simp only [impl_PartPlates.j0, Bool.false_eq_true, if_false]
          refine Ev.bind hs ?_
          simp only [show ¬ ((n : Int) = 0) by omega, if_false]
          refine M.Ev_succ (M.Ev_some fun k => ?_)
          have e : ((n : Int) == (l.length : Int)) = false := by simp; omega
          simp only [impl_PartPlates.j1, e, Bool.false_eq_true, if_false, show (0 : Int) ≤ (n : Int) by omega, if_true, show (n : Int) ≤ (l.length : Int) by omega, Int.toNat_natCast]
          rw [clonePlates_eq _ (by rw [List.length_take]; omega), clonePlates_eq _ (by rw [List.length_drop]; omega)]
          rfl
      · refine ⟨([], [], false), Ev.bind h1 ?_, Ev.bind h2 ?_, .inl rfl⟩
        · simp only [if_true, spec_isPlate_eq, hp, Option.bind_some, Bool.not_true]
          refine M.Ev_succ ?_
          simp only [spec_PartPlates.j0, Bool.false_eq_true, if_false]
          refine Ev.bind m4 (M.Ev_some fun k => ?_)
          by_cases z : n = 0
          · rw [if_pos (by omega)]
          · rw [if_neg (by omega), if_pos (by omega)]
        · simp only [if_true, impl_IsPlate_eq, hp, Option.bind_some, Bool.not_true]
          refine M.Ev_succ ?_
          simp only [impl_PartPlates.j0, Bool.false_eq_true, if_false]
          refine Ev.bind hs ?_
          by_cases z : n = 0
          · simp only [show ((n : Int) = 0) by omega, if_true]
            exact M.Ev_succ (M.Ev_some fun k => by simp [impl_PartPlates.j1])
          · simp only [show ¬ ((n : Int) = 0) by omega, if_false]
            refine M.Ev_succ (M.Ev_some fun k => ?_)
            have e : ((n : Int) == (l.length : Int)) = true := by simp; omega
            simp only [impl_PartPlates.j1, e, if_true]
    · refine ⟨([], [], false), Ev.bind h1 ?_, Ev.bind h2 ?_, .inl rfl⟩
      · simp only [if_true, spec_isPlate_eq, Option.bind_some]
        exact M.Ev_succ (M.Ev_some fun k => by simp [spec_PartPlates.j0, hp])
      · simp only [if_true, impl_IsPlate_eq, Option.bind_some]
        exact M.Ev_succ (M.Ev_some fun k => by simp [impl_PartPlates.j0, hp])
theorem part_len {l : List S26} (hl : l.length ≤ 1000000000000) {r : List S26 × List S26 × Bool} {a b : Int} (h : r = ([], [], false) ∨ (Good l ∧ M.plateB a b = true ∧ ∃ m : Nat, 0 < m ∧ m < l.length ∧ (∀ j, j < m → prk l j < M.rank a b) ∧ M.rank a b ≤ prk l m ∧ r = (l.take m, l.drop m, true))) : r.1.length ≤ 1000000 ∧ r.2.1.length ≤ 1000000 := by
  rcases h with rfl | ⟨hg, _, m, _, _, _, _, rfl⟩
  · simp
  · have := hg.2.1
    simp only [List.length_take, List.length_drop]
    omega
theorem good_sorted (l : List S26) : Good (impl_Plate_60.sorted l) ↔ 1 ≤ l.length ∧ l.length ≤ 60 ∧ Plates l ∧ l.Nodup := by
  obtain ⟨h1, h2⟩ := impl_Plate_60.sorts l
  rw [good_iff, sorted_length]
  constructor
  · rintro ⟨a, b, c, d⟩
    exact ⟨a, b, fun x hx => c x (h1.mem_iff.2 hx), h1.nodup_iff.1 (rising_nodup d)⟩
  · rintro ⟨a, b, c, d⟩
    have hc : Plates (impl_Plate_60.sorted l) := fun x hx => c x (h1.mem_iff.1 hx)
    have hd : (impl_Plate_60.sorted l).Pairwise (fun x y => x ≠ y) := h1.nodup_iff.2 d
    refine ⟨a, b, hc, List.Pairwise.imp_of_mem (fun {x y} hx hy hxy => ?_) (List.Pairwise.and h2 hd)⟩
    obtain ⟨e1, e2⟩ := hxy
    rw [rk_eq (hc x hx), rk_eq (hc y hy)] at e1
    have e3 : M.rank x.f0 x.f1 ≠ M.rank y.f0 y.f1 := fun z => e2 (plate_ext (hc x hx) (hc y hy) z)
    omega
theorem checkR_perm {l m : List S26} (h : l.Perm m) : checkR l = checkR m := by
  have hg : Good (impl_Plate_60.sorted l) ↔ Good (impl_Plate_60.sorted m) := by
    rw [good_sorted, good_sorted, h.length_eq, h.nodup_iff]
    have : Plates l ↔ Plates m := ⟨fun z x hx => z x (h.mem_iff.2 hx), fun z x hx => z x (h.mem_iff.1 hx)⟩
    rw [this]
  unfold checkR
  by_cases c : Good (impl_Plate_60.sorted m)
  · rw [if_pos c, if_pos (hg.2 c)]
    obtain ⟨_, _, c3, c4⟩ := (good_iff _).1 c
    rw [sorted_eq ((impl_Plate_60.sorts m).1.trans h.symm) c3 c4]
  · rw [if_neg c, if_neg (fun z => c (hg.1 z))]
theorem checkR_good {l : List S26} (h : Good l) : checkR l = (l, true) := by
  obtain ⟨_, _, c3, c4⟩ := (good_iff _).1 h
  have e := sorted_eq (List.Perm.refl l) c3 c4
  unfold checkR
  rw [e, if_pos h]
theorem join_loop (a b : List S26) (ha : Good a) (hb : Good b) : ∀ (d i : Nat) (out : List S26), i ≤ b.length → b.length - i = d → Good out → out.Perm (a ++ b.take i) → Ev (fun k => spec_JoinPlates.l0 k out b (b.length : Int) (i : Int)) (checkR (a ++ b)) := by
  have hb60 := hb.2.1
  intro d
  induction d with
  | zero =>
    intro i out hi hd hg hp
    obtain rfl : i = b.length := by omega
    rw [List.take_length] at hp
    refine M.Ev_succ (M.Ev_some fun k => ?_)
    simp only [spec_JoinPlates.l0]
    rw [if_neg (by omega), ← checkR_perm hp, checkR_good hg]
  | succ d ih =>
    intro i out hi hd hg hp
    have hib : i < b.length := by omega
    have e : wrap64 ((i : Int) + 1) = ((i + 1 : Nat) : Int) := by rw [M.w64 (by omega) (by omega)]; omega
    have hx : M.plateB b[i].f0 b[i].f1 = true := ((good_iff b).1 hb).2.2.1 _ (List.getElem_mem hib)
    have hadd := isAdd_ev out hg _ _ hx
    have hxe : (⟨b[i].f0, b[i].f1⟩ : S26) = b[i] := rfl
    rw [hxe] at hadd
    have hp2 : (out ++ [b[i]]).Perm (a ++ b.take (i + 1)) := by
      rw [List.take_succ_eq_append_getElem hib, ← List.append_assoc]
      exact hp.append_right _
    refine M.Ev_succ ?_
    simp only [spec_JoinPlates.l0, show (i : Int) < (b.length : Int) by omega, show (0 : Int) ≤ (i : Int) by omega, if_true, rdT_get hib, e]
    refine Ev.bind hadd ?_
    by_cases c : Good (impl_Plate_60.sorted (out ++ [b[i]]))
    · have e2 : checkR (out ++ [b[i]]) = (impl_Plate_60.sorted (out ++ [b[i]]), true) := by unfold checkR; rw [if_pos c]
      rw [e2]
      simp only [if_true]
      exact ih (i + 1) _ (by omega) (by omega) c ((impl_Plate_60.sorts _).1.trans hp2)
    · have e2 : checkR (out ++ [b[i]]) = ([], false) := by unfold checkR; rw [if_neg c]
      rw [e2]
      refine M.Ev_some fun k => ?_
      simp only [Bool.false_eq_true, if_false]
      unfold checkR
      rw [if_neg]
      intro z
      apply c
      rw [good_sorted] at z ⊢
      have hs : (a ++ b.take (i + 1)).Sublist (a ++ b) := List.Sublist.append_left (List.take_sublist _ _) _
      refine ⟨by simp, ?_, fun x hx => ?_, ?_⟩
      · have := hs.length_le
        rw [hp2.length_eq]
        omega
      · exact z.2.2.1 x (hs.subset (hp2.mem_iff.1 hx))
      · rw [hp2.nodup_iff]
        exact hs.nodup z.2.2.2
noncomputable def joinP (a b : List S26) : List S26 × Bool := if Good a ∧ Good b then checkR (a ++ b) else ([], false)
theorem joinP_length (a b : List S26) : (joinP a b).1.length ≤ 60 := by
  unfold joinP
  split
  · exact checkR_length _
  · simp
/-- JoinPlates: both give all plates of both in their order. -/
theorem JoinPlates_ev (a b : List S26) (h1 : a.length ≤ 1000000000000) (h2 : b.length ≤ 1000000000000) : Ev (fun k => spec_JoinPlates.f k a b) (joinP a b) ∧ Ev (fun k => impl_JoinPlates.f k a b) (joinP a b) := by
  obtain ⟨ga, a1, a2, a3⟩ := good_both a (by omega)
  obtain ⟨gb, b1, b2, b3⟩ := good_both b (by omega)
  unfold spec_JoinPlates.f impl_JoinPlates.f joinP
  cases ga with
  | false =>
    have hg : ¬ Good a := fun z => by simpa using a3.2 z
    simp only [hg, false_and, if_false]
    exact ⟨Ev.bind a1 (M.Ev_succ (M.Ev_some fun k => by simp [spec_JoinPlates.j0])), Ev.bind a2 (M.Ev_some fun k => rfl)⟩
  | true =>
    have hg : Good a := a3.1 rfl
    cases gb with
    | false =>
      have hgb : ¬ Good b := fun z => by simpa using b3.2 z
      simp only [hgb, and_false, if_false]
      refine ⟨Ev.bind a1 ?_, Ev.bind a2 ?_⟩
      · simp only [if_true]
        exact Ev.bind b1 (M.Ev_succ (M.Ev_some fun k => by simp [spec_JoinPlates.j0]))
      · simp only [if_true]
        exact Ev.bind b2 (M.Ev_some fun k => rfl)
    | true =>
      have hgb : Good b := b3.1 rfl
      have la := hg.2.1
      have la1 := hg.1
      have lb := hgb.2.1
      simp only [hg, hgb, and_self, if_true]
      refine ⟨Ev.bind a1 ?_, Ev.bind a2 ?_⟩
      · simp only [if_true]
        refine Ev.bind b1 (M.Ev_succ ?_)
        simp only [spec_JoinPlates.j0, Bool.not_true, Bool.false_eq_true, if_false, Option.bind_some, List.length_nil, Nat.zero_add, List.nil_append, show a.length < 8796093022208 by omega, if_true]
        exact join_loop a b hg hgb b.length 0 a (by omega) (by omega) hg (by simp)
      · simp only [if_true]
        refine Ev.bind b2 ?_
        simp only [if_true, show 0 < a.length ∧ a.length ≤ 1000000 ∧ b.length ≤ 1000000 by omega]
        exact Ev.bind (checked_ev _ (by simp; omega) (by simp; omega)) (M.Ev_some fun k => rfl)
noncomputable def askP (l : List S26) (k : Int) : Bool := decide (Good l ∧ 0 ≤ k ∧ k < (l.length : Int))
theorem askP_ev (l : List S26) (k : Int) (hl : l.length ≤ 1000000000000) : Ev (fun r => spec_isAsked.f r l k) (askP l k) ∧ Ev (fun r => impl_hasPlate.f r l k) (askP l k) := by
  obtain ⟨b, h1, h2, h3⟩ := good_both l (by omega)
  unfold spec_isAsked.f impl_hasPlate.f
  cases b with
  | false =>
    have hg : ¬ Good l := fun z => by simpa using h3.2 z
    have e : askP l k = false := by unfold askP; exact decide_eq_false (fun z => hg z.1)
    rw [e]
    exact ⟨Ev.bind h1 (M.Ev_some fun k => rfl), Ev.bind h2 (M.Ev_some fun k => rfl)⟩
  | true =>
    have hg : Good l := h3.1 rfl
    have e : askP l k = decide (0 ≤ k ∧ k ≤ (l.length : Int) - 1) := by
      unfold askP
      rw [Bool.eq_iff_iff]
      simp only [decide_eq_true_eq]
      constructor
      · rintro ⟨_, a, b⟩; exact ⟨a, by omega⟩
      · rintro ⟨a, b⟩; exact ⟨hg, a, by omega⟩
    rw [e]
    refine ⟨Ev.bind h1 (M.Ev_some fun r => ?_), Ev.bind h2 (M.Ev_some fun r => ?_)⟩
    · simp only [if_true, spec_l1In_eq, Option.bind_some]
      rw [M.w64 (x := (l.length : Int) - 1) (by omega) (by omega)]
    · simp only [if_true, impl_within_eq, Option.bind_some]
      rw [M.w64 (x := (l.length : Int) - 1) (by omega) (by omega)]
theorem askP_true {l : List S26} {k : Int} (h : askP l k = true) : Good l ∧ 0 ≤ k ∧ k < (l.length : Int) := by
  unfold askP at h
  exact of_decide_eq_true h
noncomputable def dropR (l : List S26) (k : Int) : List S26 × Bool := if askP l k = true ∧ l.length ≠ 1 then (l.eraseIdx k.toNat, true) else ([], false)
theorem dropR_length (l : List S26) (k : Int) : (dropR l k).1.length ≤ 1000000 := by
  unfold dropR
  split
  · rename_i h
    have := (askP_true h.1).1.2.1
    have := List.length_eraseIdx_le l k.toNat
    show (l.eraseIdx k.toNat).length ≤ _
    omega
  · simp
/-- DropPlate: both give the list without its k-th plate, unless it is the only one. -/
theorem DropPlate_ev (l : List S26) (k : Int) (hl : l.length ≤ 1000000000000) : Ev (fun r => spec_DropPlate.f r l k) (dropR l k) ∧ Ev (fun r => impl_DropPlate.f r l k) (dropR l k) := by
  obtain ⟨h1, h2⟩ := askP_ev l k hl
  unfold spec_DropPlate.f impl_DropPlate.f dropR
  cases hb : askP l k with
  | false =>
    rw [hb] at h1 h2
    refine ⟨Ev.bind h1 (M.Ev_some fun k => by simp), Ev.bind h2 ?_⟩
    simp only [Bool.false_eq_true, if_false, false_and]
    exact M.Ev_succ (M.Ev_some fun k => by simp [impl_DropPlate.j0])
  | true =>
    obtain ⟨hg, h0, h3⟩ := askP_true hb
    have hl60 := hg.2.1
    rw [hb] at h1 h2
    obtain ⟨n, rfl⟩ : ∃ n : Nat, k = n := ⟨k.toNat, by omega⟩
    have e1 : wrap64 ((n : Int) + 1) = ((n + 1 : Nat) : Int) := by rw [M.w64 (by omega) (by omega)]; omega
    by_cases c : l.length = 1
    · refine ⟨Ev.bind h1 (M.Ev_some fun k => ?_), Ev.bind h2 ?_⟩
      · simp [c]
      · have e : ((l.length : Int) == 1) = true := by simp; omega
        simp only [if_true, e]
        refine M.Ev_succ (M.Ev_some fun k => ?_)
        simp [impl_DropPlate.j0, c]
    · refine ⟨Ev.bind h1 (M.Ev_some fun k => ?_), Ev.bind h2 ?_⟩
      · simp only [if_true, if_neg (show ¬ ((l.length : Int) = 1) by omega), Option.bind_some, e1, Int.toNat_natCast]
        rw [if_pos (by omega), if_pos (by omega), if_pos (by simp; omega), if_pos (by omega), if_pos (by omega), if_pos (by simp; omega), if_pos ⟨by simp, c⟩, List.eraseIdx_eq_take_drop_succ]
        rfl
      · have e : ((l.length : Int) == 1) = false := by simp; omega
        simp only [if_true, e]
        refine M.Ev_succ (M.Ev_some fun k => ?_)
        simp only [impl_DropPlate.j0, Bool.false_eq_true, if_false, clonePlates_eq l (by omega), Option.bind_some, e1]
        unfold impl_Plate_43.f
        rw [if_pos ⟨by omega, by omega, by omega⟩, if_pos ⟨by simp, c⟩]
        rfl
theorem spec_isOf_eq {r : Int} (h : 0 ≤ r) (h2 : r ≤ 1000000) : spec_isOf.f r = some (r / 27, r % 27) := by
  unfold spec_isOf.f
  rw [M.tdiv_pos h, M.tmod_pos h, M.w64 (by omega) (by omega)]
theorem impl_plateAt_eq {r : Int} (h : 0 ≤ r) (h2 : r ≤ 1000000) : impl_plateAt.f r = some (r / 27, r % 27) := by
  unfold impl_plateAt.f
  rw [M.tdiv_pos h, M.tmod_pos h, M.w64 (by omega) (by omega)]
def nextP (a b : Int) : Int × Int × Bool := if M.plateB a b = true ∧ M.rank a b ≠ 269999 then ((M.rank a b + 1) / 27, (M.rank a b + 1) % 27, true) else (0, 0, false)
theorem impl_NextPlate_ev (a b : Int) : Ev (fun k => impl_NextPlate.f k a b) (nextP a b) := by
  unfold impl_NextPlate.f nextP
  simp only [impl_IsPlate_eq, Option.bind_some]
  by_cases h1 : M.plateB a b = true
  · have b1 := M.rank_bd h1
    simp only [h1, if_true, true_and, impl_rankOf_eq h1, Option.bind_some]
    refine M.Ev_succ (M.Ev_some fun k => ?_)
    simp only [impl_NextPlate.j0, impl_rankOf_eq h1, Option.bind_some]
    rw [M.w64 (x := M.rank a b + 1) (by omega) (by omega)]
    simp only [impl_plateAt_eq (r := M.rank a b + 1) (by omega) (by omega), Option.bind_some]
    by_cases h2 : M.rank a b = 269999
    · rw [if_pos (by rw [h2]; rfl), if_neg (by simp [h2])]
    · rw [if_neg (by simpa using h2), if_pos h2]
  · simp only [h1, if_false, false_and]
    exact M.Ev_succ (M.Ev_some fun k => by simp [impl_NextPlate.j0])
noncomputable def insP (l : List S26) (k : Int) : List S26 × Bool := if askP l k = true ∧ prk l k.toNat ≠ 269999 then checkR (l ++ [⟨(prk l k.toNat + 1) / 27, (prk l k.toNat + 1) % 27⟩]) else ([], false)
theorem insP_length (l : List S26) (k : Int) : (insP l k).1.length ≤ 60 := by
  unfold insP
  split
  · exact checkR_length _
  · simp
/-- InsertBehind: both give the list with the next plate in its place. -/
theorem InsertBehind_ev (l : List S26) (k : Int) (hl : l.length ≤ 1000000000000) : Ev (fun r => spec_InsertBehind.f r l k) (insP l k) ∧ Ev (fun r => impl_InsertBehind.f r l k) (insP l k) := by
  obtain ⟨h1, h2⟩ := askP_ev l k hl
  unfold spec_InsertBehind.f impl_InsertBehind.f insP
  cases hb : askP l k with
  | false =>
    rw [hb] at h1 h2
    exact ⟨Ev.bind h1 (M.Ev_some fun k => by simp), Ev.bind h2 (M.Ev_some fun k => by simp)⟩
  | true =>
    obtain ⟨hg, h0, h3⟩ := askP_true hb
    rw [hb] at h1 h2
    obtain ⟨n, rfl⟩ : ∃ n : Nat, k = n := ⟨k.toNat, by omega⟩
    have hn : n < l.length := by omega
    have hc : M.plateB (pn l n) (pl l n) = true := hg.2.2.1 n hn
    have b1 := M.rank_bd hc
    have b2 : 27 ≤ prk l n ∧ prk l n ≤ 269999 := b1
    rw [Int.toNat_natCast]
    have sr : spec_isRank.f ((rd_T26 l (n : Int)).f0) ((rd_T26 l (n : Int)).f1) = some (prk l n) := spec_isRank_eq hc
    have hnx : Ev (fun r => impl_NextPlate.f r ((rd_T26 l (n : Int)).f0) ((rd_T26 l (n : Int)).f1)) (nextP (pn l n) (pl l n)) := impl_NextPlate_ev _ _
    have e1 : wrap64 (prk l n + 1) = prk l n + 1 := M.w64 (by omega) (by omega)
    by_cases c : prk l n = 269999
    · have hnp : nextP (pn l n) (pl l n) = (0, 0, false) := by
        unfold nextP
        rw [if_neg (fun z => z.2 c)]
      rw [hnp] at hnx
      simp only [c, ne_eq, not_true_eq_false, and_false, if_false]
      refine ⟨Ev.bind h1 (M.Ev_some fun k => ?_), Ev.bind h2 ?_⟩
      · simp only [if_true, show (0 : Int) ≤ (n : Int) by omega, show (n : Int) < (l.length : Int) by omega, sr, Option.bind_some, e1, spec_isOf_eq (r := prk l n + 1) (by omega) (by omega), spec_isPlate_eq]
        rw [c]
        rfl
      · simp only [if_true, show (0 : Int) ≤ (n : Int) by omega, show (n : Int) < (l.length : Int) by omega]
        exact Ev.bind hnx (M.Ev_some fun k => by simp)
    · have hnp : nextP (pn l n) (pl l n) = ((prk l n + 1) / 27, (prk l n + 1) % 27, true) := by
        unfold nextP
        rw [if_pos ⟨hc, c⟩]
        rfl
      rw [hnp] at hnx
      have hpl : M.plateB ((prk l n + 1) / 27) ((prk l n + 1) % 27) = true := M.plateB_of _ (by omega) (by omega)
      simp only [c, ne_eq, not_false_eq_true, and_self, if_true]
      refine ⟨Ev.bind h1 ?_, Ev.bind h2 ?_⟩
      · simp only [if_true, show (0 : Int) ≤ (n : Int) by omega, show (n : Int) < (l.length : Int) by omega, sr, Option.bind_some, e1, spec_isOf_eq (r := prk l n + 1) (by omega) (by omega), spec_isPlate_eq, hpl]
        exact Ev.bind (isAdd_ev l hg _ _ hpl) (M.Ev_some fun k => rfl)
      · simp only [if_true, show (0 : Int) ≤ (n : Int) by omega, show (n : Int) < (l.length : Int) by omega]
        refine Ev.bind hnx ?_
        simp only [if_true]
        exact Ev.bind (added_ev l hg.2.1 _ _) (M.Ev_some fun k => rfl)
noncomputable def roomR (l : List S26) (k : Int) : Int × Bool := if askP l k = true then
  ((if k + 1 < (l.length : Int) ∧ pn l (k.toNat + 1) = pn l k.toNat then pl l (k.toNat + 1) else 27) - pl l k.toNat - 1, true) else (0, false)
theorem RoomBehind_ev (l : List S26) (k : Int) (hl : l.length ≤ 1000000000000) : Ev (fun r => spec_RoomBehind.f r l k) (roomR l k) ∧ Ev (fun r => impl_RoomBehind.f r l k) (roomR l k) := by
  obtain ⟨h1, h2⟩ := askP_ev l k hl
  unfold spec_RoomBehind.f impl_RoomBehind.f
  by_cases c : askP l k = true
  · obtain ⟨hg, k0, k1⟩ := askP_true c
    obtain ⟨m, rfl⟩ := Int.eq_ofNat_of_zero_le k0
    have e : wrap64 ((m : Int) + 1) = ((m + 1 : Nat) : Int) := by rw [M.w64 (by omega) (by omega)]; omega
    have p1 := M.plateB_iff.1 (hg.2.2.1 m (by omega))
    have f1 : (rd_T26 l (m : Int)).f1 = pl l m := rfl
    have f0 : (rd_T26 l (m : Int)).f0 = pn l m := rfl
    have g1 : (rd_T26 l ((m + 1 : Nat) : Int)).f1 = pl l (m + 1) := rfl
    have g0 : (rd_T26 l ((m + 1 : Nat) : Int)).f0 = pn l (m + 1) := rfl
    have key : (if ((m + 1 : Nat) : Int) < (l.length : Int) then (if 0 ≤ ((m + 1 : Nat) : Int) then (if 0 ≤ (m : Int) then (if (m : Int) < (l.length : Int) then (if (pn l (m + 1)) = (pn l m) then (some (wrap64 ((wrap64 ((pl l (m + 1)) - (pl l m))) - 1), true)) else (some (wrap64 ((wrap64 (27 - (pl l m))) - 1), true))) else (none)) else (none)) else (none)) else (if 0 ≤ (m : Int) then (if (m : Int) < (l.length : Int) then (some (wrap64 ((wrap64 (27 - (pl l m))) - 1), true)) else (none)) else (none))) = some (roomR l (m : Int)) := by
      unfold roomR
      rw [if_pos c]
      simp only [Int.toNat_natCast]
      have w27 : wrap64 (wrap64 (27 - pl l m) - 1) = 27 - pl l m - 1 := by rw [M.w64 (x := 27 - pl l m) (by omega) (by omega), M.w64 (by omega) (by omega)]
      rw [w27, if_pos (show 0 ≤ (m : Int) by omega), if_pos (show (m : Int) < (l.length : Int) by omega), if_pos (show (0 : Int) ≤ ((m + 1 : Nat) : Int) by omega), if_pos (show 0 ≤ (m : Int) by omega), if_pos (show (m : Int) < (l.length : Int) by omega)]
      by_cases d : m + 1 < l.length
      · have p2 := M.plateB_iff.1 (hg.2.2.1 (m + 1) d)
        rw [if_pos (show ((m + 1 : Nat) : Int) < (l.length : Int) by omega)]
        by_cases q : pn l (m + 1) = pn l m
        · rw [if_pos q, if_pos ⟨by omega, q⟩, M.w64 (x := pl l (m + 1) - pl l m) (by omega) (by omega), M.w64 (by omega) (by omega)]
        · rw [if_neg q, if_neg (fun z => q z.2)]
      · rw [if_neg (show ¬ ((m + 1 : Nat) : Int) < (l.length : Int) by omega), if_neg (fun z => by omega)]
    rw [c] at h1 h2
    refine ⟨Ev.bind h1 (M.Ev_some fun r => ?_), Ev.bind h2 (M.Ev_some fun r => ?_)⟩
    · simp only [if_true, e, f0, f1, g0, g1]; exact key
    · simp only [if_true, e, f0, f1, g0, g1]; exact key
  · have e : roomR l k = (0, false) := by unfold roomR; rw [if_neg c]
    rw [e]
    rw [Bool.not_eq_true] at c
    rw [c] at h1 h2
    exact ⟨Ev.bind h1 (M.Ev_some fun r => rfl), Ev.bind h2 (M.Ev_some fun r => rfl)⟩
noncomputable def oldR (l : List S26) (n : Int) : Int × Int × Bool := if Good l ∧ 1 ≤ n ∧ n ≤ (l.length : Int) then (pn l (n - 1).toNat, pl l (n - 1).toNat, true) else (0, 0, false)
theorem OldPlate_ev (l : List S26) (n : Int) (hl : l.length ≤ 1000000000000) : Ev (fun k => spec_OldPlate.f k l n) (oldR l n) ∧ Ev (fun k => impl_OldPlate.f k l n) (oldR l n) := by
  obtain ⟨b, h1, h2, h3⟩ := good_both l (by omega)
  unfold spec_OldPlate.f impl_OldPlate.f
  cases b with
  | false =>
    have hg : ¬ Good l := fun z => by simpa using h3.2 z
    have e : oldR l n = (0, 0, false) := by unfold oldR; rw [if_neg (fun z => hg z.1)]
    rw [e]
    exact ⟨Ev.bind h1 (M.Ev_some fun k => rfl), Ev.bind h2 (M.Ev_some fun k => rfl)⟩
  | true =>
    have hg : Good l := h3.1 rfl
    by_cases c : 1 ≤ n ∧ n ≤ (l.length : Int)
    · obtain ⟨m, hm⟩ := Int.eq_ofNat_of_zero_le (show 0 ≤ n - 1 by omega)
      have e : oldR l n = ((rd_T26 l (n - 1)).f0, (rd_T26 l (n - 1)).f1, true) := by
        unfold oldR pn pl
        rw [if_pos ⟨hg, c⟩, Int.toNat_of_nonneg (by omega)]
      rw [e]
      refine ⟨Ev.bind h1 (M.Ev_some fun k => ?_), Ev.bind h2 (M.Ev_some fun k => ?_)⟩
      · simp only [if_true, spec_l1In_eq, Option.bind_some, c, and_self, decide_true]
        rw [M.w64 (x := n - 1) (by omega) (by omega), if_pos (by omega), if_pos (by omega)]
      · simp only [if_true, impl_within_eq, Option.bind_some, c, and_self, decide_true]
        rw [M.w64 (x := n - 1) (by omega) (by omega), if_pos (by omega), if_pos (by omega)]
    · have e : oldR l n = (0, 0, false) := by unfold oldR; rw [if_neg (fun z => c z.2)]
      rw [e]
      refine ⟨Ev.bind h1 (M.Ev_some fun k => ?_), Ev.bind h2 (M.Ev_some fun k => ?_)⟩
      · simp only [if_true, spec_l1In_eq, Option.bind_some, c, decide_false, Bool.false_eq_true, if_false]
      · simp only [if_true, impl_within_eq, Option.bind_some, c, decide_false, Bool.false_eq_true, if_false]
def letB (p : Int) : Int := if p = 0 then 45 else 96 + p
def letUp (l : List S26) (n : Int) : Nat → List Int
  | 0 => []
  | i + 1 => letUp l n i ++ (if pn l i = n then [letB (pl l i)] else [])
theorem letUp_len (l : List S26) (n : Int) : ∀ i, (letUp l n i).length ≤ i
  | 0 => by simp [letUp]
  | i + 1 => by
    have := letUp_len l n i
    simp only [letUp, List.length_append]
    split <;> simp <;> omega
theorem letter_all : ∀ n : Fin 27, n.val ≠ 0 → ((⟨#[97, 98, 99, 100, 101, 102, 103, 104, 105, 106, 107, 108, 109, 110, 111, 112, 113, 114, 115, 116, 117, 118, 119, 120, 121, 122]⟩ : ByteArray).extract (n.val - 1) n.val).data.toList = [UInt8.ofNat (96 + n.val)] := by decide +kernel
theorem isLetter_eq {p : Int} (h0 : 0 ≤ p) (h : p ≤ 26) : spec_isLetter.f p (⟨#[45]⟩ : ByteArray) = some (strOfNums [letB p]) := by
  unfold spec_isLetter.f letB
  by_cases c : p = 0
  · rw [if_pos c, if_pos c]; rfl
  · obtain ⟨n, rfl⟩ := Int.eq_ofNat_of_zero_le h0
    have e : wrap64 ((n : Int) - 1) = ((n - 1 : Nat) : Int) := by rw [M.w64 (by omega) (by omega)]; omega
    rw [if_neg c, if_neg c, e, if_pos (by omega), if_pos (by omega), if_pos (by omega)]
    congr 1
    apply ByteArray.ext
    apply Array.toList_inj.1
    have := letter_all ⟨n, by omega⟩ (by simpa using c)
    simp only [Int.toNat_natCast]
    rw [this]
    simp only [strOfNums, List.map_cons, List.map_nil]
    congr 2
noncomputable def letR (l : List S26) (n : Int) : ByteArray × Bool := if Good l ∧ 1 ≤ n ∧ n ≤ 9999 then (strOfNums (letUp l n l.length), true) else (⟨#[]⟩, false)
theorem let_loop (l : List S26) (hg : Good l) (n : Int) : ∀ (d i : Nat), i ≤ l.length → l.length - i = d →
    Ev (fun k => spec_LettersOf.l0 k n (strOfNums (letUp l n i)) l (l.length : Int) (i : Int)) (strOfNums (letUp l n l.length), true) ∧ Ev (fun k => impl_LettersOf.l0 k n (letUp l n i) l (l.length : Int) (i : Int)) (strOfNums (letUp l n l.length), true) := by
  have hl60 := hg.2.1
  intro d
  induction d with
  | zero =>
    intro i hi hd
    obtain rfl : i = l.length := by omega
    refine ⟨M.Ev_succ (M.Ev_some fun k => ?_), M.Ev_succ (M.Ev_some fun k => ?_)⟩
    · simp only [spec_LettersOf.l0]; rw [if_neg (by omega)]
    · simp only [impl_LettersOf.l0]; rw [if_neg (by omega)]
  | succ d ih =>
    intro i hi hd
    obtain ⟨h1, h2⟩ := ih (i + 1) (by omega) (by omega)
    have p1 := M.plateB_iff.1 (hg.2.2.1 i (by omega))
    have hlen := letUp_len l n i
    have e : wrap64 ((i : Int) + 1) = ((i + 1 : Nat) : Int) := by rw [M.w64 (by omega) (by omega)]; omega
    have f0 : (rd_T26 l (i : Int)).f0 = pn l i := rfl
    have f1 : (rd_T26 l (i : Int)).f1 = pl l i := rfl
    by_cases c : pn l i = n
    · simp only [letUp, c, if_true] at h1 h2
      refine ⟨M.Ev_succ ?_, M.Ev_succ ?_⟩
      · simp only [spec_LettersOf.l0, show (i : Int) < (l.length : Int) by omega, show (0 : Int) ≤ (i : Int) by omega, if_true, f0, f1, c, isLetter_eq p1.2.2.1 p1.2.2.2, Option.bind_some, strOfNums_size, M.strOfNums_append, e]
        have hs : (letUp l n i).length + [letB (pl l i)].length ≤ 9223372036854775807 := by simp; omega
        simp only [hs, if_true]
        exact h1
      · simp only [impl_LettersOf.l0, show (i : Int) < (l.length : Int) by omega, show (0 : Int) ≤ (i : Int) by omega, if_true, f0, f1, c, show (letUp l n i).length < 140737488355328 by omega, e]
        by_cases z : pl l i = 0
        · simp only [z, if_true]
          rw [z] at h2
          exact h2
        · simp only [z, if_false]
          have w1 : wrap64 (wrap64 (97 + pl l i) - 1) % 256 = letB (pl l i) := by
            unfold letB
            rw [if_neg z, M.w64 (x := 97 + pl l i) (by omega) (by omega), M.w64 (by omega) (by omega)]; omega
          rw [w1]
          exact h2
    · simp only [letUp, c, if_false, List.append_nil] at h1 h2
      refine ⟨M.Ev_succ ?_, M.Ev_succ ?_⟩
      · simp only [spec_LettersOf.l0, show (i : Int) < (l.length : Int) by omega, show (0 : Int) ≤ (i : Int) by omega, if_true, f0, c, if_false, e]
        exact h1
      · simp only [impl_LettersOf.l0, show (i : Int) < (l.length : Int) by omega, show (0 : Int) ≤ (i : Int) by omega, if_true, f0, c, if_false, e]
        exact h2
theorem Letters_ev (l : List S26) (n : Int) (hl : l.length ≤ 1000000000000) : Ev (fun k => spec_LettersOf.f k l n) (letR l n) ∧ Ev (fun k => impl_LettersOf.f k l n) (letR l n) := by
  obtain ⟨b, h1, h2, h3⟩ := good_both l (by omega)
  unfold spec_LettersOf.f impl_LettersOf.f
  cases b with
  | false =>
    have hg : ¬ Good l := fun z => by simpa using h3.2 z
    have e : letR l n = (⟨#[]⟩, false) := by unfold letR; rw [if_neg (fun z => hg z.1)]
    rw [e]
    exact ⟨Ev.bind h1 (M.Ev_succ (M.Ev_some fun k => by simp [spec_LettersOf.j0])), Ev.bind h2 (M.Ev_succ (M.Ev_some fun k => by simp [impl_LettersOf.j0]))⟩
  | true =>
    have hg : Good l := h3.1 rfl
    by_cases c : 1 ≤ n ∧ n ≤ 9999
    · have e : letR l n = (strOfNums (letUp l n l.length), true) := by unfold letR; rw [if_pos ⟨hg, c⟩]
      rw [e]
      obtain ⟨g1, g2⟩ := let_loop l hg n l.length 0 (by omega) (by omega)
      refine ⟨Ev.bind h1 ?_, Ev.bind h2 ?_⟩
      · simp only [if_true, spec_l1In_eq, Option.bind_some, c, and_self, decide_true, Bool.not_true]
        refine M.Ev_succ ?_
        simp only [spec_LettersOf.j0, Bool.false_eq_true, if_false]
        exact g1
      · simp only [if_true, impl_within_eq, Option.bind_some, c, and_self, decide_true, Bool.not_true]
        refine M.Ev_succ ?_
        simp only [impl_LettersOf.j0, Bool.false_eq_true, if_false]
        exact g2
    · have e : letR l n = (⟨#[]⟩, false) := by unfold letR; rw [if_neg (fun z => c z.2)]
      rw [e]
      refine ⟨Ev.bind h1 ?_, Ev.bind h2 ?_⟩
      · simp only [if_true, spec_l1In_eq, Option.bind_some, c, decide_false, Bool.not_false]
        exact M.Ev_succ (M.Ev_some fun k => by simp [spec_LettersOf.j0])
      · simp only [if_true, impl_within_eq, Option.bind_some, c, decide_false, Bool.not_false]
        exact M.Ev_succ (M.Ev_some fun k => by simp [impl_LettersOf.j0])
def cmpR (a b c d : Int) : Int × Bool := if M.plateB a b = true ∧ M.plateB c d = true then (cmpI (M.rank a b) (M.rank c d), true) else (0, false)
theorem impl_ComparePlates_ev (a b c d : Int) : Ev (fun k => impl_ComparePlates.f k a b c d) (cmpR a b c d) := by
  unfold impl_ComparePlates.f cmpR
  simp only [impl_IsPlate_eq, Option.bind_some]
  by_cases h1 : M.plateB a b = true
  · by_cases h2 : M.plateB c d = true
    · have b1 := M.rank_bd h1
      have b2 := M.rank_bd h2
      simp only [h1, h2, if_true, and_self, Bool.not_true]
      refine M.Ev_succ (M.Ev_some fun k => ?_)
      simp only [impl_ComparePlates.j0, Bool.false_eq_true, if_false, impl_rankOf_eq h1, impl_rankOf_eq h2, Option.bind_some, cmp_Compare_eq]
    · simp only [h1, h2, if_true, if_false, and_false, Bool.not_eq_true, Bool.not_false]
      exact M.Ev_succ (M.Ev_some fun k => by simp [impl_ComparePlates.j0, h2])
  · simp only [h1, if_false, false_and]
    exact M.Ev_succ (M.Ev_some fun k => by simp [impl_ComparePlates.j0])
/-! ### Of lists of plates: one put in, one taken out, parted and joined -/
theorem at_some {l : List S26} {j : Nat} (hj : j < l.length) : l[j]? = some ⟨pn l j, pl l j⟩ := by
  unfold pn pl
  rw [rdT_get hj, List.getElem?_eq_getElem hj]
theorem pn_of {l : List S26} {j : Nat} {x : S26} (h : l[j]? = some x) : j < l.length ∧ pn l j = x.f0 ∧ pl l j = x.f1 := by
  obtain ⟨hj, rfl⟩ := List.getElem?_eq_some_iff.1 h
  unfold pn pl
  rw [rdT_get hj]
  exact ⟨hj, rfl, rfl⟩
theorem good_uniq {l : List S26} (hg : Good l) {i j : Nat} (hi : i < l.length) (hj : j < l.length) (e1 : pn l i = pn l j) (e2 : pl l i = pl l j) : i = j := by
  have e : prk l i = prk l j := by unfold prk; rw [e1, e2]
  rcases Nat.lt_trichotomy i j with c | c | c
  · have := good_lt hg c hj; omega
  · exact c
  · have := good_lt hg c hi; omega
theorem good_sub {l m : List S26} (h : m.Sublist l) (h1 : 1 ≤ m.length) (hg : Good l) : Good m := by
  obtain ⟨g1, g2, g3, g4⟩ := (good_iff l).1 hg
  have := h.length_le
  exact (good_iff m).2 ⟨h1, by omega, fun x hx => g3 x (h.subset hx), List.Pairwise.sublist h g4⟩
theorem are_ev {l : List S26} (h : Good l) : Ev (fun k => impl_ArePlates.f k l) true := by
  obtain ⟨b, -, h2, h3⟩ := good_both l (by have := h.2.1; omega)
  rw [h3.2 h] at h2
  exact h2
theorem put_erase {α : Type} {l : List α} {m : Nat} {x : α} (h : m ≤ l.length) : (l.take m ++ x :: l.drop m).eraseIdx m = l := by
  have e : (l.take m).length = m := by rw [List.length_take]; omega
  rw [List.eraseIdx_append_of_length_le (by omega), e, Nat.sub_self, List.eraseIdx_cons_zero, List.take_append_drop]
theorem put_at {α : Type} {l : List α} {m : Nat} {x : α} (h : m ≤ l.length) : (l.take m ++ x :: l.drop m)[m]? = some x := by
  have e : (l.take m).length = m := by rw [List.length_take]; omega
  rw [List.getElem?_append_right (by omega), e, Nat.sub_self]
  rfl
theorem put_len {α : Type} {l : List α} {m : Nat} {x : α} (h : m ≤ l.length) : (l.take m ++ x :: l.drop m).length = l.length + 1 := by
  rw [List.length_append, List.length_cons, List.length_take, List.length_drop]
  omega
theorem put_drop {l : List S26} (h0 : 1 ≤ l.length) {m : Nat} (hm : m ≤ l.length) {x : S26} (hg : Good (l.take m ++ x :: l.drop m)) : dropR (l.take m ++ x :: l.drop m) (m : Int) = (l, true) := by
  have hlen := put_len (x := x) hm
  unfold dropR askP
  rw [if_pos ⟨decide_eq_true ⟨hg, by omega, by omega⟩, by omega⟩, Int.toNat_natCast, put_erase hm]
/-- Where a plate has been put in, it had not been there, and it stands between the smaller and the larger ones. -/
theorem add_put {l : List S26} (hg : Good l) {a b : Int} (hp : M.plateB a b = true) (h : (checkR (l ++ [⟨a, b⟩])).2 = true) : (∀ j, j < l.length → ¬ (pn l j = a ∧ pl l j = b)) ∧ ∃ m : Nat, m ≤ l.length ∧ (∀ j, j < m → prk l j < M.rank a b) ∧ (m < l.length → M.rank a b ≤ prk l m) ∧ checkR (l ++ [⟨a, b⟩]) = (l.take m ++ ⟨a, b⟩ :: l.drop m, true) ∧ Good (l.take m ++ ⟨a, b⟩ :: l.drop m) := by
  obtain ⟨m, h2, h3, h4, -⟩ := isPlace_ev l hg a b hp
  obtain ⟨g1, g2, g3⟩ := checkR_true h
  rw [g2] at g1
  have hnd := ((good_sorted _).1 g1).2.2.2
  rw [List.nodup_append] at hnd
  have hno : ∀ j, j < l.length → ¬ (pn l j = a ∧ pl l j = b) := fun j hj z => by
    have e := at_some hj
    rw [z.1, z.2] at e
    exact hnd.2.2 _ (List.mem_of_getElem? e) _ (by simp) rfl
  obtain ⟨p1, p2⟩ := put_rising hg hp h2 h3 h4 (fun z => hno m z.1 z.2)
  have hperm : (l.take m ++ ⟨a, b⟩ :: l.drop m).Perm (l ++ [⟨a, b⟩]) := by
    have e1 : (l.take m ++ ⟨a, b⟩ :: l.drop m).Perm (⟨a, b⟩ :: (l.take m ++ l.drop m)) := List.perm_middle
    rw [List.take_append_drop] at e1
    have e2 := List.perm_append_comm (l₁ := [(⟨a, b⟩ : S26)]) (l₂ := l)
    rw [List.singleton_append] at e2
    exact e1.trans e2
  have hs := sorted_eq hperm p1 p2
  rw [g2, hs] at g3
  rw [hs] at g1
  exact ⟨hno, m, h2, h3, h4, g3, g1⟩
theorem back_add {l : List S26} (hg : Good l) (h1 : l.length ≠ 1) {i : Nat} (hi : i < l.length) : Good (l.eraseIdx i) ∧ checkR (l.eraseIdx i ++ [⟨pn l i, pl l i⟩]) = (l, true) := by
  have hx : l[i] = ⟨pn l i, pl l i⟩ := by
    have := at_some hi
    rw [List.getElem?_eq_getElem hi] at this
    exact Option.some.inj this
  refine ⟨good_sub (List.eraseIdx_sublist l i) ?_ hg, ?_⟩
  · have := hg.1
    rw [List.length_eraseIdx_of_lt hi]
    omega
  · have hp : (l.eraseIdx i ++ [l[i]]).Perm l := by
      have e1 : (l.take i ++ l.drop (i + 1) ++ [l[i]]).Perm (l[i] :: (l.take i ++ l.drop (i + 1))) := List.perm_append_comm
      have e2 : (l[i] :: (l.take i ++ l.drop (i + 1))).Perm (l.take i ++ l[i] :: l.drop (i + 1)) := List.perm_middle.symm
      have e3 : l.take i ++ l[i] :: l.drop (i + 1) = l := by rw [← List.drop_eq_getElem_cons hi, List.take_append_drop]
      rw [e3] at e2
      rw [List.eraseIdx_eq_take_drop_succ]
      exact e1.trans e2
    rw [← hx, checkR_perm hp, checkR_good hg]
theorem DrawAddPlate_ok {l : List Int} (hl : InB l) : ∃ L a b, Ev (fun k => spec_DrawAddPlate.f k l) (L, a, b) ∧ L.length ≤ 61 := by
  obtain ⟨L, a, b, e, h⟩ := DrawPlaceOfPlate_ok hl
  exact ⟨L, a, b, Ev.bind e (M.Ev_some fun k => rfl), h⟩
theorem DrawInsertBehind_ok {l : List Int} (hl : InB l) : ∃ L i, Ev (fun k => spec_DrawInsertBehind.f k l) (L, i) ∧ L.length ≤ 61 := by
  obtain ⟨L, a1, s1, e1, hL, ha, ha2⟩ := plates_ok hl (a := 0) (by omega) (by omega) 0
  obtain ⟨x, a2, s2, e2, _, _, hb, hb2⟩ := pick_ok hl (a := a1) (by omega) (by omega) s1 (wrap64 ((L.length : Int) + 1))
  obtain ⟨y, a3, s3, e3, _, _, hc, hc2⟩ := pick_ok hl (a := a2) (by omega) (by omega) s2 9
  refine ⟨L, wrap64 (x - wrap64 (Int.tdiv y 8)), Ev.bind e1 (M.Ev_some fun k => ?_), hL⟩
  simp only [e2, e3, Option.bind_some]
theorem DrawLettersOf_ok {l : List Int} (hl : InB l) : ∃ L n, Ev (fun k => spec_DrawLettersOf.f k l) (L, n) ∧ L.length ≤ 61 := by
  obtain ⟨L, a1, s1, e1, hL, ha, ha2⟩ := plates_ok hl (a := 0) (by omega) (by omega) 0
  obtain ⟨x, a2, s2, e2, _, hb, hb2⟩ := among_ok hl (a := a1) (by omega) (by omega) s1 [1, 2, 3, 4, 5, 6, 9, 10, 9999, 10000, 0, (-1)] (by simp)
  refine ⟨L, x, Ev.bind e1 (M.Ev_some fun k => ?_), hL⟩
  simp only [e2, Option.bind_some]
theorem DrawJoinPlates_ok {l : List Int} (hl : InB l) : ∃ L R, Ev (fun k => spec_DrawJoinPlates.f k l) (L, R) ∧ L.length ≤ 61 ∧ R.length ≤ 61 := by
  obtain ⟨L, a1, s1, e1, hL, ha, ha2⟩ := plates_ok hl (a := 0) (by omega) (by omega) 0
  obtain ⟨R, a2, s2, e2, hR, hb, hb2⟩ := plates_ok hl (a := a1) (by omega) (by omega) s1
  exact ⟨L, R, Ev.bind e1 (Ev.bind e2 (M.Ev_some fun k => rfl)), hL, hR⟩
theorem aPlates_loop (l : List S26) (hl : l.length ≤ 1000000000000) : ∀ (d i : Nat), i ≤ l.length → l.length - i = d → Ev (fun k => laws_aPlates.l0 k l l (l.length : Int) (i : Int)) true := by
  intro d
  induction d with
  | zero =>
    intro i hi hd
    refine M.Ev_succ (M.Ev_some fun r => ?_)
    simp only [laws_aPlates.l0]
    rw [if_neg (by omega)]
  | succ d ih =>
    intro i hi hd
    have e : wrap64 ((i : Int) + 1) = ((i + 1 : Nat) : Int) := by rw [M.w64 (by omega) (by omega)]; omega
    refine M.Ev_succ ?_
    simp only [laws_aPlates.l0, show (i : Int) < (l.length : Int) by omega, show (0 : Int) ≤ (i : Int) by omega, if_true, BEq.rfl, Bool.not_true, Bool.or_self, Bool.false_eq_true, if_false, e]
    exact ih (i + 1) (by omega) (by omega)
theorem aPlates_ev (l : List S26) (hl : l.length ≤ 1000000000000) : Ev (fun k => laws_aPlates.f k l l) true := by
  unfold laws_aPlates.f
  simp only [if_true]
  exact aPlates_loop l hl l.length 0 (by omega) (by omega)
theorem addP_ok {l : List S26} {a b : Int} (h : (addP l a b).2 = true) : Good l ∧ (∀ j, j < l.length → ¬ (pn l j = a ∧ pl l j = b)) ∧ ∃ m : Nat, m ≤ l.length ∧ addP l a b = (l.take m ++ ⟨a, b⟩ :: l.drop m, true) ∧ Good (l.take m ++ ⟨a, b⟩ :: l.drop m) := by
  unfold addP at h ⊢
  by_cases c : Good l ∧ M.plateB a b = true
  · rw [if_pos c] at h ⊢
    obtain ⟨h1, m, h2, _, _, h5, h6⟩ := add_put c.1 c.2 h
    exact ⟨c.1, h1, m, h2, h5, h6⟩
  · rw [if_neg c] at h
    cases h
/-- Of a plate put in: it is found, dropped again the list is as before, and it is one longer. -/
theorem add_facts (l : List S26) (a b : Int) : ∃ i : Int, (addP l a b).2 = true → Ev (fun k => impl_PlaceOfPlate.f k (addP l a b).1 a b) (i, true) ∧ Ev (fun k => impl_DropPlate.f k (addP l a b).1 i) (l, true) ∧ Ev (fun k => impl_ArePlates.f k (addP l a b).1) true ∧ (addP l a b).1.length = l.length + 1 ∧ l.length ≤ 60 := by
  cases hb : (addP l a b).2 with
  | false => exact ⟨0, fun z => by cases z⟩
  | true =>
    obtain ⟨hg, hno, m, hm, e, hS⟩ := addP_ok hb
    have hlen := put_len (x := (⟨a, b⟩ : S26)) hm
    have h60 := hS.2.1
    have hd := put_drop hg.1 hm hS
    have hat := pn_of (put_at (x := (⟨a, b⟩ : S26)) hm)
    rw [e]
    generalize hS' : l.take m ++ ⟨a, b⟩ :: l.drop m = S at *
    refine ⟨(m : Int), fun _ => ⟨?_, ?_, are_ev hS, hlen, hg.2.1⟩⟩
    · obtain ⟨r, _, h2, h3⟩ := PlaceOfPlate_ev S (by omega) a b
      rcases h3 with ⟨_, h3⟩ | ⟨_, j, hj, rfl, e1, e2⟩
      · exact absurd hat.2 (h3 hS m hat.1)
      · have : j = m := good_uniq hS hj hat.1 (e1.trans hat.2.1.symm) (e2.trans hat.2.2.symm)
        rw [this] at h2
        exact h2
    · have h := (DropPlate_ev S (m : Int) (by omega)).2
      rw [hd] at h
      exact h
def PartOf (l : List S26) (a b : Int) (r : List S26 × List S26 × Bool) : Prop := r = ([], [], false) ∨ (Good l ∧ M.plateB a b = true ∧ ∃ m : Nat, 0 < m ∧ m < l.length ∧ (∀ j, j < m → prk l j < M.rank a b) ∧ M.rank a b ≤ prk l m ∧ r = (l.take m, l.drop m, true))
/-- Of a list parted: joined again it is as before, the last below is smaller and the first above is not. -/
theorem part_facts {l : List S26} {a b : Int} {r : List S26 × List S26 × Bool} (h : PartOf l a b r) : ∃ la lb ha hb x y : Int, r.2.2 = true → Ev (fun k => impl_JoinPlates.f k r.1 r.2.1) (l, true) ∧ Ev (fun k => impl_JoinPlates.f k r.2.1 r.1) (l, true) ∧ Ev (fun k => impl_ComparePlates.f k la lb a b) (x, true) ∧ Ev (fun k => impl_ComparePlates.f k ha hb a b) (y, true) ∧ 1 ≤ r.1.length ∧ r.1[r.1.length - 1]? = some ⟨la, lb⟩ ∧ r.2.1[0]? = some ⟨ha, hb⟩ ∧ x < 0 ∧ 0 ≤ y ∧ r.1.length + r.2.1.length = l.length ∧ l.length ≤ 60 := by
  rcases h with rfl | ⟨hg, hp, m, m0, m1, h3, h4, rfl⟩
  · exact ⟨0, 0, 0, 0, 0, 0, fun z => by cases z⟩
  · have h60 := hg.2.1
    have hl1 : (l.take m).length = m := by rw [List.length_take]; omega
    have hl2 : (l.drop m).length = l.length - m := List.length_drop
    have g1 : Good (l.take m) := good_sub (List.take_sublist m l) (by omega) hg
    have g2 : Good (l.drop m) := good_sub (List.drop_sublist m l) (by omega) hg
    refine ⟨pn l (m - 1), pl l (m - 1), pn l m, pl l m, cmpI (prk l (m - 1)) (M.rank a b), cmpI (prk l m) (M.rank a b), fun _ => ⟨?_, ?_, ?_, ?_, ?_, ?_, ?_, ?_, ?_, ?_, h60⟩⟩
    · have h := (JoinPlates_ev (l.take m) (l.drop m) (by omega) (by omega)).2
      unfold joinP at h
      rw [if_pos ⟨g1, g2⟩, List.take_append_drop, checkR_good hg] at h
      exact h
    · have h := (JoinPlates_ev (l.drop m) (l.take m) (by omega) (by omega)).2
      unfold joinP at h
      rw [if_pos ⟨g2, g1⟩, checkR_perm List.perm_append_comm, List.take_append_drop, checkR_good hg] at h
      exact h
    · have h := impl_ComparePlates_ev (pn l (m - 1)) (pl l (m - 1)) a b
      unfold cmpR at h
      rw [if_pos ⟨hg.2.2.1 _ (by omega), hp⟩] at h
      exact h
    · have h := impl_ComparePlates_ev (pn l m) (pl l m) a b
      unfold cmpR at h
      rw [if_pos ⟨hg.2.2.1 _ (by omega), hp⟩] at h
      exact h
    · show 1 ≤ (l.take m).length
      omega
    · show (l.take m)[(l.take m).length - 1]? = _
      rw [hl1, List.getElem?_take, if_pos (by omega), at_some (by omega)]
    · show (l.drop m)[0]? = _
      rw [List.getElem?_drop, Nat.add_zero, at_some m1]
    · rw [cmpI_neg]
      exact h3 (m - 1) (by omega)
    · have := cmpI_neg (prk l m) (M.rank a b)
      omega
    · show (l.take m).length + (l.drop m).length = _
      omega
theorem prk_bd {l : List S26} (hg : Good l) {i : Nat} (hi : i < l.length) : 27 ≤ prk l i ∧ prk l i ≤ 269999 := M.rank_bd (hg.2.2.1 i hi)
theorem rank_of (R : Int) : M.rank (R / 27) (R % 27) = R := by
  unfold M.rank
  omega
/-- Of a plate put in behind another: it is the next, and it stands behind it. -/
theorem ins_facts {l : List S26} {k : Int} (h : (insP l k).2 = true) : Ev (fun r => impl_NextPlate.f r (pn l k.toNat) (pl l k.toNat)) ((prk l k.toNat + 1) / 27, (prk l k.toNat + 1) % 27, true) ∧ Ev (fun r => impl_DropPlate.f r (insP l k).1 (k + 1)) (l, true) ∧ askP l k = true ∧ (insP l k).1.length = l.length + 1 ∧ (insP l k).1[(k + 1).toNat]? = some ⟨(prk l k.toNat + 1) / 27, (prk l k.toNat + 1) % 27⟩ := by
  unfold insP at h ⊢
  by_cases c : askP l k = true ∧ prk l k.toNat ≠ 269999
  · rw [if_pos c] at h ⊢
    obtain ⟨hg, k0, k1⟩ := askP_true c.1
    obtain ⟨K, rfl⟩ := Int.eq_ofNat_of_zero_le k0
    rw [Int.toNat_natCast] at *
    have hb := prk_bd hg (i := K) (by omega)
    have hp := M.plateB_of (prk l K + 1) (by omega) (by omega)
    have hr := rank_of (prk l K + 1)
    obtain ⟨hno, m, hm, h3, h4, e, hS⟩ := add_put hg hp h
    rw [hr] at h3 h4
    have em : m = K + 1 := by
      rcases Nat.lt_trichotomy m (K + 1) with q | q | q
      · have a1 := h4 (by omega)
        by_cases z : m = K
        · rw [z] at a1; omega
        · have := good_lt hg (i := m) (j := K) (by omega) (by omega); omega
      · exact q
      · have a1 := h3 (K + 1) q
        have := good_lt hg (i := K) (j := K + 1) (by omega) (by omega)
        omega
    subst em
    have e1 : (K : Int) + 1 = ((K + 1 : Nat) : Int) := by omega
    rw [e, e1, Int.toNat_natCast]
    have hlen := put_len (x := (⟨(prk l K + 1) / 27, (prk l K + 1) % 27⟩ : S26)) hm
    have h60 := hS.2.1
    refine ⟨?_, ?_, c.1, hlen, put_at hm⟩
    · have h := impl_NextPlate_ev (pn l K) (pl l K)
      unfold nextP at h
      rw [if_pos ⟨hg.2.2.1 K (by omega), c.2⟩] at h
      exact h
    · have h := (DropPlate_ev _ ((K + 1 : Nat) : Int) (show (l.take (K + 1) ++ (⟨(prk l K + 1) / 27, (prk l K + 1) % 27⟩ : S26) :: l.drop (K + 1)).length ≤ 1000000000000 by omega)).2
      rw [put_drop hg.1 hm hS] at h
      exact h
  · rw [if_neg c] at h
    cases h
/-- Of the room behind a plate. -/
theorem room_facts {l : List S26} {k : Int} (h : (roomR l k).2 = true) : askP l k = true ∧ 0 ≤ (roomR l k).1 ∧ (roomR l k).1 ≤ 26 ∧ (0 < (roomR l k).1 → l.length < 60 → (insP l k).2 = true) := by
  unfold roomR at h ⊢
  by_cases c : askP l k = true
  · rw [if_pos c] at h ⊢
    obtain ⟨hg, k0, k1⟩ := askP_true c
    obtain ⟨K, rfl⟩ := Int.eq_ofNat_of_zero_le k0
    rw [Int.toNat_natCast]
    have p1 := M.plateB_iff.1 (hg.2.2.1 K (by omega))
    have er : prk l K = pn l K * 27 + pl l K := rfl
    have er1 : prk l (K + 1) = pn l (K + 1) * 27 + pl l (K + 1) := rfl
    have p2 : (K : Int) + 1 < (l.length : Int) → prk l K < prk l (K + 1) ∧ 1 ≤ pn l (K + 1) ∧ pn l (K + 1) ≤ 9999 ∧ 0 ≤ pl l (K + 1) ∧ pl l (K + 1) ≤ 26 := fun z => ⟨hg.2.2.2 K (by omega), M.plateB_iff.1 (hg.2.2.1 (K + 1) (by omega))⟩
    refine ⟨c, ?_, ?_, fun hr h60 => ?_⟩
    · show 0 ≤ (if (K : Int) + 1 < (l.length : Int) ∧ pn l (K + 1) = pn l K then pl l (K + 1) else 27) - pl l K - 1
      split
      · rename_i z; have := p2 z.1; omega
      · omega
    · show (if (K : Int) + 1 < (l.length : Int) ∧ pn l (K + 1) = pn l K then pl l (K + 1) else 27) - pl l K - 1 ≤ 26
      split
      · rename_i z; have := p2 z.1; omega
      · omega
    · have hr' : (if (K : Int) + 1 < (l.length : Int) ∧ pn l (K + 1) = pn l K then pl l (K + 1) else 27) - pl l K - 1 > 0 := hr
      have hb := prk_bd hg (i := K) (by omega)
      have hmax : prk l K ≠ 269999 := fun z => by
        split at hr'
        · rename_i y; have := p2 y.1; omega
        · omega
      have hp := M.plateB_of (prk l K + 1) (by omega) (by omega)
      have hrk := rank_of (prk l K + 1)
      have hgd : Good (impl_Plate_60.sorted (l ++ [⟨(prk l K + 1) / 27, (prk l K + 1) % 27⟩])) := by
        obtain ⟨g1, g2, g3, g4⟩ := (good_iff l).1 hg
        refine (good_sorted _).2 ⟨by simp, by simp; omega, fun x hx => ?_, ?_⟩
        · rcases List.mem_append.1 hx with q | q
          · exact g3 x q
          · rw [List.mem_singleton.1 q]; exact hp
        · refine List.nodup_append.2 ⟨rising_nodup g4, by simp, fun x hx y hy e => ?_⟩
          rw [List.mem_singleton.1 hy] at e
          obtain ⟨j, hj, rfl⟩ := List.getElem_of_mem hx
          have ej : prk l j = prk l K + 1 := by rw [prk_get hj, e]; exact hrk
          have h1 : j = K + 1 := by
            rcases Nat.lt_trichotomy j (K + 1) with q | q | q
            · by_cases z : j = K
              · rw [z] at ej; omega
              · have := good_lt hg (i := j) (j := K) (by omega) (by omega); omega
            · exact q
            · have a1 := good_lt hg (i := K) (j := K + 1) (by omega) (by omega)
              have a2 := good_lt hg q hj
              omega
          subst h1
          have := p2 (by omega)
          split at hr'
          · rename_i y; omega
          · rename_i y
            have : pn l (K + 1) ≠ pn l K := fun z => y ⟨by omega, z⟩
            omega
      unfold insP
      rw [if_pos ⟨c, by rw [Int.toNat_natCast]; exact hmax⟩, Int.toNat_natCast]
      unfold checkR
      rw [if_pos hgd]
  · rw [if_neg c] at h
    cases h
theorem drop_facts {l : List S26} {k : Int} (h : (dropR l k).2 = true) : askP l k = true ∧ Ev (fun r => impl_AddPlate.f r (dropR l k).1 (pn l k.toNat) (pl l k.toNat)) (l, true) := by
  unfold dropR at h ⊢
  by_cases c : askP l k = true ∧ l.length ≠ 1
  · rw [if_pos c]
    obtain ⟨hg, k0, k1⟩ := askP_true c.1
    obtain ⟨b1, b2⟩ := back_add hg c.2 (i := k.toNat) (by omega)
    have h := (AddPlate_ev (l.eraseIdx k.toNat) (by have := b1.2.1; omega) (pn l k.toNat) (pl l k.toNat)).2
    unfold addP at h
    rw [if_pos ⟨b1, hg.2.2.1 _ (by omega)⟩, b2] at h
    exact ⟨c.1, h⟩
  · rw [if_neg c] at h
    cases h
theorem join_facts {a b : List S26} (h : (joinP a b).2 = true) : Ev (fun r => impl_JoinPlates.f r b a) ((joinP a b).1, true) ∧ Ev (fun r => impl_ArePlates.f r (joinP a b).1) true ∧ (joinP a b).1.length = a.length + b.length ∧ (joinP a b).1.length ≤ 60 := by
  have h60 := joinP_length a b
  unfold joinP at h h60 ⊢
  by_cases c : Good a ∧ Good b
  · rw [if_pos c] at h h60 ⊢
    obtain ⟨g1, g2, g3⟩ := checkR_true h
    refine ⟨?_, are_ev g1, ?_, h60⟩
    · have h := (JoinPlates_ev b a (by have := c.2.2.1; omega) (by have := c.1.2.1; omega)).2
      unfold joinP at h
      rw [if_pos ⟨c.2, c.1⟩, checkR_perm List.perm_append_comm, g3] at h
      exact h
    · rw [g2, sorted_length, List.length_append]
  · rw [if_neg c] at h
    cases h
theorem letUp_cnt (l : List S26) (n : Int) : ∀ i, i ≤ l.length → (letUp l n i).length = ((l.take i).filter (fun x => x.f0 == n)).length
  | 0, _ => by simp [letUp]
  | i + 1, h => by
    have ih := letUp_cnt l n i (by omega)
    have hi : i < l.length := by omega
    have e : pn l i = l[i].f0 := by unfold pn; rw [rdT_get hi]
    rw [List.take_succ_eq_append_getElem hi, List.filter_append]
    simp only [letUp, List.length_append, ih, e]
    by_cases c : l[i].f0 = n <;> simp [c]
open GFnPlatesInserted (Facts)
theorem facts {l0 l1 : List Int} (h0 : InB l0) (h1 : InB l1) : ∃ kk ls p q lad ok plc one low hig thr at1 la lb ha hb1 x1 y1 m1 k1 wi fv rm sv le nn oa ob el ln nb lt tt jc jd jo ff ma mb na nl,
    Facts kk l0 l1 ls p q lad ok plc one low hig thr at1 la lb ha hb1 x1 y1 m1 k1 wi fv rm sv le nn oa ob el ln nb lt tt jc jd jo ff ma mb na nl := by
  obtain ⟨ls, p, q, ⟨K3, e3⟩, hls⟩ := DrawAddPlate_ok h0
  obtain ⟨⟨K5, e5⟩, ⟨K4, e4⟩⟩ := AddPlate_ev ls (by omega) p q
  obtain ⟨po, ⟨K7, e7⟩, ⟨K6, e6⟩, hpo⟩ := PlaceOfPlate_ev ls (by omega) p q
  obtain ⟨pt, ⟨K9, e9⟩, ⟨K8, e8⟩, hpt⟩ := PartPlates_ev ls (by omega) p q
  have hlen := part_len (by omega) hpt
  obtain ⟨m1, k1, ⟨K26, e26⟩, hm1⟩ := DrawInsertBehind_ok h1
  obtain ⟨⟨K28, e28⟩, ⟨K27, e27⟩⟩ := InsertBehind_ev m1 k1 (by omega)
  obtain ⟨⟨K30, e30⟩, ⟨K29, e29⟩⟩ := RoomBehind_ev m1 k1 (by omega)
  obtain ⟨⟨K32, e32⟩, ⟨K31, e31⟩⟩ := DropPlate_ev m1 k1 (by omega)
  obtain ⟨⟨K34, e34⟩, ⟨K33, e33⟩⟩ := OldPlate_ev m1 k1 (by omega)
  obtain ⟨ln, nb, ⟨K35, e35⟩, hln⟩ := DrawLettersOf_ok h1
  obtain ⟨⟨K37, e37⟩, ⟨K36, e36⟩⟩ := Letters_ev ln nb (by omega)
  obtain ⟨jc, jd, ⟨K38, e38⟩, hjc, hjd⟩ := DrawJoinPlates_ok h1
  obtain ⟨⟨K40, e40⟩, ⟨K39, e39⟩⟩ := JoinPlates_ev jc jd (by omega) (by omega)
  obtain ⟨at1, hat⟩ := add_facts ls p q
  obtain ⟨K13, e13⟩ := if_ev (fun c => (hat c).1)
  obtain ⟨K14, e14⟩ := if_ev (fun c => (hat c).2.1)
  obtain ⟨K15, e15⟩ := if_ev (fun c => (hat c).2.2.1)
  obtain ⟨la, lb, ha, hb1, x1, y1, hpf⟩ := part_facts hpt
  obtain ⟨K20, e20⟩ := if_ev (fun c => (hpf c).1)
  obtain ⟨K21, e21⟩ := if_ev (fun c => (hpf c).2.1)
  obtain ⟨K22, e22⟩ := if_ev (fun c => (hpf c).2.2.1)
  obtain ⟨K23, e23⟩ := if_ev (fun c => (hpf c).2.2.2.1)
  obtain ⟨K44, e44⟩ := if_ev (fun c => (ins_facts (l := m1) (k := k1) c).1)
  obtain ⟨K45, e45⟩ := if_ev (fun c => (ins_facts (l := m1) (k := k1) c).2.1)
  obtain ⟨K51, e51⟩ := if_ev (fun c => (drop_facts (l := m1) (k := k1) c).2)
  obtain ⟨K65, e65⟩ := if_ev (fun c => (join_facts (a := jc) (b := jd) c).1)
  obtain ⟨K66, e66⟩ := if_ev (fun c => (join_facts (a := jc) (b := jd) c).2.1)
  obtain ⟨K71, a1⟩ := aPlates_ev ls (by omega)
  obtain ⟨K72, a2⟩ := aPlates_ev (addP ls p q).1 (by have := addP_length ls p q; omega)
  obtain ⟨K73, a3⟩ := aPlates_ev pt.1 (by omega)
  obtain ⟨K74, a4⟩ := aPlates_ev pt.2.1 (by omega)
  obtain ⟨K75, a5⟩ := aPlates_ev m1 (by omega)
  obtain ⟨K76, a6⟩ := aPlates_ev (insP m1 k1).1 (by have := insP_length m1 k1; omega)
  obtain ⟨K77, a7⟩ := aPlates_ev (dropR m1 k1).1 (by have := dropR_length m1 k1; omega)
  obtain ⟨K78, a8⟩ := aPlates_ev (joinP jc jd).1 (by have := joinP_length jc jd; omega)
  obtain ⟨kk, g3, g4, g5, g6, g7, g8, g9, g13, g14, g15, g20, g21, g22, g23, g26, g27, g28, g29, g30, g31, g32, g33, g34, g35, g36, g37, g38, g39, g40, g44, g45, g51, g65, g66, g71, g72, g73, g74, g75, g76, g77, g78⟩ : ∃ kk, K3 ≤ kk ∧ K4 ≤ kk ∧ K5 ≤ kk ∧ K6 ≤ kk ∧ K7 ≤ kk ∧ K8 ≤ kk ∧ K9 ≤ kk ∧ K13 ≤ kk ∧ K14 ≤ kk ∧ K15 ≤ kk ∧ K20 ≤ kk ∧ K21 ≤ kk ∧ K22 ≤ kk ∧ K23 ≤ kk ∧ K26 ≤ kk ∧ K27 ≤ kk ∧ K28 ≤ kk ∧ K29 ≤ kk ∧ K30 ≤ kk ∧ K31 ≤ kk ∧ K32 ≤ kk ∧ K33 ≤ kk ∧ K34 ≤ kk ∧ K35 ≤ kk ∧ K36 ≤ kk ∧ K37 ≤ kk ∧ K38 ≤ kk ∧ K39 ≤ kk ∧ K40 ≤ kk ∧ K44 ≤ kk ∧ K45 ≤ kk ∧ K51 ≤ kk ∧ K65 ≤ kk ∧ K66 ≤ kk ∧ K71 ≤ kk ∧ K72 ≤ kk ∧ K73 ≤ kk ∧ K74 ≤ kk ∧ K75 ≤ kk ∧ K76 ≤ kk ∧ K77 ≤ kk ∧ K78 ≤ kk := ⟨K3 + K4 + K5 + K6 + K7 + K8 + K9 + K13 + K14 + K15 + K20 + K21 + K22 + K23 + K26 + K27 + K28 + K29 + K30 + K31 + K32 + K33 + K34 + K35 + K36 + K37 + K38 + K39 + K40 + K44 + K45 + K51 + K65 + K66 + K71 + K72 + K73 + K74 + K75 + K76 + K77 + K78, by omega, by omega, by omega, by omega, by omega, by omega, by omega, by omega, by omega, by omega, by omega, by omega, by omega, by omega, by omega, by omega, by omega, by omega, by omega, by omega, by omega, by omega, by omega, by omega, by omega, by omega, by omega, by omega, by omega, by omega, by omega, by omega, by omega, by omega, by omega, by omega, by omega, by omega, by omega, by omega, by omega, by omega⟩
  refine ⟨kk, ls, p, q, (addP ls p q).1, (addP ls p q).2, po.1, po.2, pt.1, pt.2.1, pt.2.2, at1, la, lb, ha, hb1, x1, y1, m1, k1, (insP m1 k1).1, (insP m1 k1).2, (roomR m1 k1).1, (roomR m1 k1).2, (dropR m1 k1).1, (dropR m1 k1).2, (oldR m1 k1).1, (oldR m1 k1).2.1, (oldR m1 k1).2.2, ln, nb, (letR ln nb).1, (letR ln nb).2, jc, jd, (joinP jc jd).1, (joinP jc jd).2, pn m1 k1.toNat, pl m1 k1.toNat, (prk m1 k1.toNat + 1) / 27, (prk m1 k1.toNat + 1) % 27, ?_⟩
  exact {
    f3_1 := e3 kk g3
    f4_2 := e4 kk g4
    f5_2 := e5 kk g5
    f6_2 := e6 kk g6
    f7_2 := e7 kk g7
    f8_2 := e8 kk g8
    f9_2 := e9 kk g9
    f26_1 := e26 kk g26
    f27_2 := e27 kk g27
    f28_2 := e28 kk g28
    f29_2 := e29 kk g29
    f30_2 := e30 kk g30
    f31_2 := e31 kk g31
    f32_2 := e32 kk g32
    f33_2 := e33 kk g33
    f34_2 := e34 kk g34
    f35_1 := e35 kk g35
    f36_2 := e36 kk g36
    f37_2 := e37 kk g37
    f38_1 := e38 kk g38
    f39_2 := e39 kk g39
    f40_2 := e40 kk g40
    f65_2 := fun h => e65 h kk g65
    f66_5 := fun _ => a8 kk g78
    f66_20 := fun h => e66 h kk g66
    f51_5 := fun h => e51 h kk g51
    f52_5 := fun _ => a5 kk g75
    f44_4 := fun h => e44 h kk g44
    f45_3 := fun h => e45 h kk g45
    f46_26 := fun _ => a5 kk g75
    f41_6 := a6 kk g76
    f41_27 := a7 kk g77
    f41_58 := a8 kk g78
    f20_2 := fun h => e20 h kk g20
    f21_2 := fun h => e21 h kk g21
    f22_7 := fun h => e22 h kk g22
    f23_4 := fun h => e23 h kk g23
    f24_5 := fun _ => a1 kk g71
    f24_15 := fun _ => a1 kk g71
    f13_2 := fun h => e13 h kk g13
    f14_2 := fun h => e14 h kk g14
    f15_1 := fun h => e15 h kk g15
    f15_22 := fun _ => a1 kk g71
    f10_6 := a2 kk g72
    f10_27 := a3 kk g73
    f10_33 := a4 kk g74
    hxor := fun h => by
      obtain ⟨hg, hno, _⟩ := addP_ok h
      rcases hpo with ⟨rfl, _⟩ | ⟨_, m, hm, _, e⟩
      · rfl
      · exact absurd e (hno m hm)
    hladd := fun h => by
      have a := (hat h).2.2.2
      rw [M.w64 (by omega) (by omega)]
      omega
    hplace := fun h => by
      rcases hpo with ⟨rfl, _⟩ | ⟨_, m, hm, rfl, e1, e2⟩
      · cases h
      · refine ⟨by show (0 : Int) ≤ (m : Int); omega, by show (m : Int) < (ls.length : Int); omega, ?_⟩
        show ls[((m : Int)).toNat]? = _
        rw [Int.toNat_natCast, at_some hm, e1, e2]
    hlow := fun h => by
      obtain ⟨_, _, _, _, b1, b2, b3, b4, b5, b6, b7⟩ := hpf h
      refine ⟨b1, by omega, b2, b3, b4, b5, ?_⟩
      rw [M.w64 (by omega) (by omega)]
      omega
    hfs := fun h => by
      have := (ins_facts h).2.2.1
      unfold roomR
      rw [if_pos this]
    hns := fun h => by
      have := (drop_facts h).1
      unfold roomR
      rw [if_pos this]
    hk1 := fun h => by
      obtain ⟨_, _, b1, b2, b3⟩ := ins_facts h
      obtain ⟨_, k0, k2⟩ := askP_true b1
      refine ⟨k0, k2, by omega, at_some (by omega), ?_, b3⟩
      rw [M.w64 (by omega) (by omega)]
      omega
    hrm := fun h => by
      obtain ⟨_, b1, b2, b3⟩ := room_facts h
      exact ⟨b1, b2, fun c d => b3 c (by omega)⟩
    hnn := fun h => by
      obtain ⟨_, k0, k2⟩ := askP_true (drop_facts h).1
      exact ⟨k0, k2, at_some (by omega)⟩
    hcnt := fun h => by
      unfold letR at h ⊢
      by_cases c : Good ln ∧ 1 ≤ nb ∧ nb ≤ 9999
      · rw [if_pos c]
        show ((strOfNums (letUp ln nb ln.length)).size : Int) = _
        rw [strOfNums_size, letUp_cnt ln nb ln.length (Nat.le_refl _), List.take_length]
        rfl
      · rw [if_neg c] at h
        cases h
    hjo := fun h => by
      have a := (join_facts h).2.2
      rw [M.w64 (by omega) (by omega)]
      omega }
theorem FnPlatesInserted {A0 A1 : Option Addr} {c0 c1 : Nat} {l0 l1 : List Int} (w : World) (hr0 : Kd.C (Kd.int .u8) w A0 l0.length l0) (hc0 : l0.length ≤ c0) (hr1 : Kd.C (Kd.int .u8) w A1 l1.length l1) (hc1 : l1.length ≤ c1) (h0 : InB l0) (h1 : InB l1) :
    Calls Try.prog 3 #[.slice A0 l0.length c0, .slice A1 l1.length c1] w fun e w' => e = .returned (.bool true) ∧ Below w.heap.size w w' := by
  have hb : ∃ b, laws_big.f l0 l1 = some b := by
    unfold laws_big.f
    split
    · exact ⟨_, rfl⟩
    · exact ⟨_, rfl⟩
  obtain ⟨b, hb⟩ := hb
  cases b with
  | true => exact GFnPlatesInserted.calls_big hb w hr0 hc0 hr1 hc1
  | false =>
    obtain ⟨kk, ls, p, q, lad, ok, plc, one, low, hig, thr, at1, la, lb, ha, hb1, x1, y1, m1, k1, wi, fv, rm, sv, le, nn, oa, ob, el, ln, nb, lt, tt, jc, jd, jo, ff, ma, mb, na, nl, H⟩ := facts h0 h1
    exact GFnPlatesInserted.calls_small H hb w hr0 hc0 hr1 hc1

end Go.Proofs.Ytbnhfipcjbnknaa.Pure
