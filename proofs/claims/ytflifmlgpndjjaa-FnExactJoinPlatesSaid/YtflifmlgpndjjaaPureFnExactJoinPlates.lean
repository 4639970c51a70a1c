/- The program's JoinPlates and the reference's answer the same for all pairs of lists, the arguments stay as they were, and the result shares no memory: no further condition. -/
import Derived.Test.YtflifmlgpndjjaaM
import Derived.Test.YtflifmlgpndjjaaPFnExactJoinPlatesx10
namespace Go.Proofs.Ytflifmlgpndjjaa.Pure
open Go.RowKit Go.Proofs.Ytflifmlgpndjjaa.PFnExactJoinPlates Go.Proofs.YtflifmlgpndjjaaW.PrintWords Go.Proofs.YtflifmlgpndjjaaW.PrintLast Go.Proofs.YtflifmlgpndjjaaW.PrintMore
set_option linter.unusedVariables false
set_option linter.unusedSimpArgs false
theorem spec_l1In_eq (a b c : Int) : spec_l1In.f a b c = some (decide (b ≤ a ∧ a ≤ c)) := by
  unfold spec_l1In.f
  by_cases h : a ≥ b
  · rw [if_pos h]; simp [show b ≤ a from h]
  · rw [if_neg h]; simp [show ¬ b ≤ a from h]
theorem impl_within_eq (a b c : Int) : impl_within.f a b c = some (decide (b ≤ a ∧ a ≤ c)) := by
  unfold impl_within.f
  by_cases h : a ≥ b
  · rw [if_pos h]; simp [show b ≤ a from h]
  · rw [if_neg h]; simp [show ¬ b ≤ a from h]
theorem spec_isPlate_eq (n l : Int) : spec_isPlate.f n l = some (M.plateB n l) := by
  unfold spec_isPlate.f M.plateB
  simp only [spec_l1In_eq, Option.bind_some]
  by_cases h : 1 ≤ n ∧ n ≤ 9999 <;> simp [h]
theorem impl_IsPlate_eq (n l : Int) : impl_IsPlate.f n l = some (M.plateB n l) := by
  unfold impl_IsPlate.f M.plateB
  simp only [impl_within_eq, Option.bind_some]
  by_cases h : 1 ≤ n ∧ n ≤ 9999 <;> simp [h]
theorem spec_isRank_eq {n l : Int} (h : M.plateB n l = true) : spec_isRank.f n l = some (M.rank n l) := by
  have h' := M.plateB_iff.1 h
  unfold spec_isRank.f M.rank
  rw [M.w64 (x := 27 * n) (by omega) (by omega), M.w64 (by omega) (by omega), Int.mul_comm]
theorem impl_rankOf_eq {n l : Int} (h : M.plateB n l = true) : impl_rankOf.f n l = some (M.rank n l) := by
  have h' := M.plateB_iff.1 h
  unfold impl_rankOf.f M.rank
  rw [M.w64 (x := n * 27) (by omega) (by omega), M.w64 (by omega) (by omega)]
def pn (l : List S30) (i : Nat) : Int := (rd_T30 l (i : Int)).f0
def pl (l : List S30) (i : Nat) : Int := (rd_T30 l (i : Int)).f1
def prk (l : List S30) (i : Nat) : Int := M.rank (pn l i) (pl l i)
/-- Plates: 1 to 60 of them, each a plate, one behind the other. -/
def Good (l : List S30) : Prop := 1 ≤ l.length ∧ l.length ≤ 60 ∧ (∀ i, i < l.length → M.plateB (pn l i) (pl l i) = true) ∧ ∀ i, i + 1 < l.length → prk l i < prk l (i + 1)
noncomputable instance goodDec (l : List S30) : Decidable (Good l) := Classical.propDecidable _
theorem good_loops (l : List S30) (hl : l.length ≤ 9000000000000000000) : ∀ (d i : Nat), i ≤ l.length → l.length - i = d → (0 < i → M.plateB (pn l (i - 1)) (pl l (i - 1)) = true) →
    ∃ b : Bool, Ev (fun k => spec_isGood.l0 k l l (l.length : Int) (i : Int)) b ∧ Ev (fun k => impl_ArePlates.l0 k l l (l.length : Int) (i : Int)) (b && decide (1 ≤ l.length ∧ l.length ≤ 60)) ∧
      (b = true ↔ (∀ j, i ≤ j → j < l.length → M.plateB (pn l j) (pl l j) = true) ∧ ∀ j, i ≤ j + 1 → j + 1 < l.length → prk l j < prk l (j + 1)) := by
  intro d
  induction d with
  | zero =>
    intro i hi hd hp
    refine ⟨true, M.Ev_succ (M.Ev_some fun k => ?_), M.Ev_succ (M.Ev_some fun k => ?_), ?_⟩
    · simp only [spec_isGood.l0]; rw [if_neg (by omega)]
    · simp only [impl_ArePlates.l0]
      rw [if_neg (by omega), impl_within_eq]
      simp only [Option.bind_some, Bool.true_and, Option.some.injEq, decide_eq_decide]
      omega
    · simp only [true_iff]
      exact ⟨fun j a b => by omega, fun j a b => by omega⟩
  | succ d ih =>
    intro i hi hd hp
    have e : wrap64 ((i : Int) + 1) = ((i + 1 : Nat) : Int) := by rw [M.w64 (by omega) (by omega)]; omega
    have sp : spec_isPlate.f ((rd_T30 l (i : Int)).f0) ((rd_T30 l (i : Int)).f1) = some (M.plateB (pn l i) (pl l i)) := spec_isPlate_eq _ _
    have ip : impl_IsPlate.f ((rd_T30 l (i : Int)).f0) ((rd_T30 l (i : Int)).f1) = some (M.plateB (pn l i) (pl l i)) := impl_IsPlate_eq _ _
    by_cases hc : M.plateB (pn l i) (pl l i) = true
    · have sr : spec_isRank.f ((rd_T30 l (i : Int)).f0) ((rd_T30 l (i : Int)).f1) = some (prk l i) := spec_isRank_eq hc
      have ir : impl_rankOf.f ((rd_T30 l (i : Int)).f0) ((rd_T30 l (i : Int)).f1) = some (prk l i) := impl_rankOf_eq hc
      obtain ⟨b, h1, h2, h3⟩ := ih (i + 1) (by omega) (by omega) (fun _ => by simpa using hc)
      by_cases h0 : i = 0
      · subst h0
        refine ⟨b, M.Ev_succ ?_, M.Ev_succ ?_, ?_⟩
        · simp only [spec_isGood.l0, show ((0 : Nat) : Int) < (l.length : Int) by omega, show (0 : Int) ≤ ((0 : Nat) : Int) by omega, if_true, sp, hc, Option.bind_some, show ¬ (((0 : Nat) : Int) > 0) by omega, if_false, e]
          exact h1
        · simp only [impl_ArePlates.l0, show ((0 : Nat) : Int) < (l.length : Int) by omega, show (0 : Int) ≤ ((0 : Nat) : Int) by omega, if_true, ip, hc, Option.bind_some, show ¬ (((0 : Nat) : Int) > 0) by omega, if_false, e]
          exact h2
        · rw [h3]
          constructor
          · rintro ⟨x, y⟩
            refine ⟨fun j a b => ?_, fun j a b => y j (by omega) b⟩
            by_cases q : j = 0
            · rw [q]; exact hc
            · exact x j (by omega) b
          · rintro ⟨x, y⟩
            exact ⟨fun j a b => x j (by omega) b, fun j a b => y j (by omega) b⟩
      · have hq := hp (by omega)
        have em : wrap64 ((i : Int) - 1) = ((i - 1 : Nat) : Int) := by rw [M.w64 (by omega) (by omega)]; omega
        have sm : spec_isRank.f ((rd_T30 l ((i - 1 : Nat) : Int)).f0) ((rd_T30 l ((i - 1 : Nat) : Int)).f1) = some (prk l (i - 1)) := spec_isRank_eq hq
        have im : impl_rankOf.f ((rd_T30 l ((i - 1 : Nat) : Int)).f0) ((rd_T30 l ((i - 1 : Nat) : Int)).f1) = some (prk l (i - 1)) := impl_rankOf_eq hq
        have ei : i - 1 + 1 = i := by omega
        by_cases hr : prk l (i - 1) < prk l i
        · refine ⟨b, M.Ev_succ ?_, M.Ev_succ ?_, ?_⟩
          · simp only [spec_isGood.l0, show (i : Int) < (l.length : Int) by omega, show (0 : Int) ≤ (i : Int) by omega, if_true, sp, hc, Option.bind_some, show ((i : Int) > 0) by omega, e, em, show (0 : Int) ≤ ((i - 1 : Nat) : Int) by omega, show ((i - 1 : Nat) : Int) < (l.length : Int) by omega, sm, sr, show ¬ (prk l (i - 1) ≥ prk l i) by omega, if_false]
            exact h1
          · simp only [impl_ArePlates.l0, show (i : Int) < (l.length : Int) by omega, show (0 : Int) ≤ (i : Int) by omega, if_true, ip, hc, Option.bind_some, show ((i : Int) > 0) by omega, e, em, show (0 : Int) ≤ ((i - 1 : Nat) : Int) by omega, show ((i - 1 : Nat) : Int) < (l.length : Int) by omega, im, ir, show ¬ (prk l (i - 1) ≥ prk l i) by omega, if_false]
            exact h2
          · rw [h3]
            constructor
            · rintro ⟨x, y⟩
              refine ⟨fun j a b => ?_, fun j a b => ?_⟩
              · by_cases q : j = i
                · rw [q]; exact hc
                · exact x j (by omega) b
              · by_cases q : j + 1 = i
                · have : j = i - 1 := by omega
                  rw [this, ei]; exact hr
                · exact y j (by omega) b
            · rintro ⟨x, y⟩
              exact ⟨fun j a b => x j (by omega) b, fun j a b => y j (by omega) b⟩
        · refine ⟨false, M.Ev_succ (M.Ev_some fun k => ?_), M.Ev_succ (M.Ev_some fun k => ?_), ?_⟩
          · simp only [spec_isGood.l0, show (i : Int) < (l.length : Int) by omega, show (0 : Int) ≤ (i : Int) by omega, if_true, sp, hc, Option.bind_some, show ((i : Int) > 0) by omega, e, em, show (0 : Int) ≤ ((i - 1 : Nat) : Int) by omega, show ((i - 1 : Nat) : Int) < (l.length : Int) by omega, sm, sr, show (prk l (i - 1) ≥ prk l i) by omega]
          · simp only [impl_ArePlates.l0, show (i : Int) < (l.length : Int) by omega, show (0 : Int) ≤ (i : Int) by omega, if_true, ip, hc, Option.bind_some, show ((i : Int) > 0) by omega, e, em, show (0 : Int) ≤ ((i - 1 : Nat) : Int) by omega, show ((i - 1 : Nat) : Int) < (l.length : Int) by omega, im, ir, show (prk l (i - 1) ≥ prk l i) by omega, Bool.false_and]
          · simp only [Bool.false_eq_true, false_iff]
            rintro ⟨x, y⟩
            have := y (i - 1) (by omega) (by omega)
            rw [ei] at this
            exact hr this
    · refine ⟨false, M.Ev_succ (M.Ev_some fun k => ?_), M.Ev_succ (M.Ev_some fun k => ?_), ?_⟩
      · simp only [spec_isGood.l0, show (i : Int) < (l.length : Int) by omega, show (0 : Int) ≤ (i : Int) by omega, if_true, sp, hc, Option.bind_some, Bool.false_eq_true, if_false]
      · simp only [impl_ArePlates.l0, show (i : Int) < (l.length : Int) by omega, show (0 : Int) ≤ (i : Int) by omega, if_true, ip, hc, Option.bind_some, Bool.false_eq_true, if_false, Bool.false_and]
      · simp only [Bool.false_eq_true, false_iff]
        rintro ⟨x, _⟩
        exact hc (x i (by omega) (by omega))
theorem good_both (l : List S30) (hl : l.length ≤ 9000000000000000000) : ∃ b : Bool, Ev (fun k => spec_isGood.f k l) b ∧ Ev (fun k => impl_ArePlates.f k l) b ∧ (b = true ↔ Good l) := by
  obtain ⟨b, h1, h2, h3⟩ := good_loops l hl l.length 0 (by omega) (by omega) (fun h => by omega)
  refine ⟨b && decide (1 ≤ l.length ∧ l.length ≤ 60), ?_, ?_, ?_⟩
  · unfold spec_isGood.f
    rw [spec_l1In_eq]
    simp only [Option.bind_some]
    by_cases c : 1 ≤ l.length ∧ l.length ≤ 60
    · have c' : (1 : Int) ≤ (l.length : Int) ∧ (l.length : Int) ≤ 60 := by omega
      simp only [c, c', and_self, decide_true, if_true, Bool.and_true]
      exact h1
    · have c' : ¬ ((1 : Int) ≤ (l.length : Int) ∧ (l.length : Int) ≤ 60) := by omega
      simp only [c, c', decide_false, Bool.and_false]
      exact M.Ev_some fun k => by simp
  · unfold impl_ArePlates.f; exact h2
  · unfold Good
    simp only [Bool.and_eq_true, decide_eq_true_eq, h3]
    constructor
    · rintro ⟨⟨x, y⟩, a, b⟩
      exact ⟨a, b, fun i h => x i (by omega) h, fun i h => y i (by omega) h⟩
    · rintro ⟨a, b, x, y⟩
      exact ⟨⟨fun i _ h => x i h, fun i _ h => y i h⟩, a, b⟩
theorem good_mono {l : List S30} (h : Good l) : ∀ (d i : Nat), i + 1 + d < l.length → prk l i < prk l (i + 1 + d) := by
  intro d
  induction d with
  | zero => intro i hi; exact h.2.2.2 i hi
  | succ d ih =>
    intro i hi
    have a := ih i (by omega)
    have b := h.2.2.2 (i + 1 + d) (by omega)
    have e : i + 1 + (d + 1) = i + 1 + d + 1 := by omega
    rw [e]
    omega
theorem good_lt {l : List S30} (h : Good l) {i j : Nat} (hij : i < j) (hj : j < l.length) : prk l i < prk l j := by
  have := good_mono h (j - i - 1) i (by omega)
  have e : i + 1 + (j - i - 1) = j := by omega
  rwa [e] at this
theorem isPlace_loop (l : List S30) (hg : Good l) (a b : Int) (hp : M.plateB a b = true) : ∀ (d i : Nat), i ≤ l.length → l.length - i = d → (∀ j, j < i → prk l j < M.rank a b) →
    ∃ m : Nat, i ≤ m ∧ m ≤ l.length ∧ (∀ j, j < m → prk l j < M.rank a b) ∧ (m < l.length → M.rank a b ≤ prk l m) ∧ Ev (fun k => spec_isPlace.l0 k l (i : Int) a b) ((m : Int), decide (m < l.length ∧ pn l m = a ∧ pl l m = b)) := by
  intro d
  induction d with
  | zero =>
    intro i hi hd hj
    have hil : ¬ i < l.length := by omega
    refine ⟨i, Nat.le_refl _, hi, hj, fun h => by omega, M.Ev_succ (M.Ev_some fun k => ?_)⟩
    simp only [spec_isPlace.l0]
    rw [if_neg (by omega), decide_eq_false (fun z => hil z.1)]
  | succ d ih =>
    intro i hi hd hj
    have hil : i < l.length := by omega
    have hc := hg.2.2.1 i hil
    have e : wrap64 ((i : Int) + 1) = ((i + 1 : Nat) : Int) := by
      have := hg.2.1
      rw [M.w64 (by omega) (by omega)]; omega
    have sr : spec_isRank.f ((rd_T30 l (i : Int)).f0) ((rd_T30 l (i : Int)).f1) = some (prk l i) := spec_isRank_eq hc
    by_cases hr : prk l i < M.rank a b
    · obtain ⟨m, h1, h2, h3, h4, h5⟩ := ih (i + 1) (by omega) (by omega) (fun j hj' => by
        by_cases q : j = i
        · rw [q]; exact hr
        · exact hj j (by omega))
      refine ⟨m, by omega, h2, h3, h4, M.Ev_succ ?_⟩
      simp only [spec_isPlace.l0, show (i : Int) < (l.length : Int) by omega, show (0 : Int) ≤ (i : Int) by omega, if_true, sr, spec_isRank_eq hp, Option.bind_some, hr, e]
      exact h5
    · refine ⟨i, Nat.le_refl _, hi, hj, fun _ => by omega, M.Ev_succ (M.Ev_some fun k => ?_)⟩
      simp only [spec_isPlace.l0, show (i : Int) < (l.length : Int) by omega, show (0 : Int) ≤ (i : Int) by omega, if_true, sr, spec_isRank_eq hp, Option.bind_some, hr, if_false, Option.some.injEq, Prod.mk.injEq, true_and]
      show (pn l i == a && (pl l i == b)) = decide (i < l.length ∧ pn l i = a ∧ pl l i = b)
      rw [Bool.eq_iff_iff]
      simp [hil]
theorem isPlace_ev (l : List S30) (hg : Good l) (a b : Int) (hp : M.plateB a b = true) :
    ∃ m : Nat, m ≤ l.length ∧ (∀ j, j < m → prk l j < M.rank a b) ∧ (m < l.length → M.rank a b ≤ prk l m) ∧ Ev (fun k => spec_isPlace.f k l a b) ((m : Int), decide (m < l.length ∧ pn l m = a ∧ pl l m = b)) := by
  obtain ⟨m, _, h2, h3, h4, h5⟩ := isPlace_loop l hg a b hp l.length 0 (by omega) (by omega) (fun j hj => by omega)
  exact ⟨m, h2, h3, h4, h5⟩
/-- A plate is in a list where it stands in its place, and only there. -/
theorem place_of {l : List S30} (hg : Good l) {a b : Int} {m : Nat} (h3 : ∀ j, j < m → prk l j < M.rank a b) (h4 : m < l.length → M.rank a b ≤ prk l m) {j : Nat} (hj : j < l.length) (e : pn l j = a ∧ pl l j = b) : j = m := by
  have er : prk l j = M.rank a b := by unfold prk; rw [e.1, e.2]
  by_cases c : j < m
  · have := h3 j c; omega
  · by_cases c2 : m < j
    · have := good_lt hg c2 hj
      have := h4 (by omega)
      omega
    · omega
/-- What marking leaves: m, m+1 in the first one, and so on. -/
def runP (m : Int) (n : Nat) : List S30 := (List.range n).map fun (i : Nat) => ⟨m + 2 * (i : Int), m + 2 * (i : Int) + 1⟩
theorem runP_length (m : Int) (n : Nat) : (runP m n).length = n := by simp [runP]
theorem runP_get (m : Int) (n i : Nat) (h : i < (runP m n).length) : (runP m n)[i] = ⟨m + 2 * (i : Int), m + 2 * (i : Int) + 1⟩ := by simp [runP]
theorem rdT_get {l : List S30} {i : Nat} (h : i < l.length) : rd_T30 l (i : Int) = l[i] := by
  unfold rd_T30
  rw [Int.toNat_natCast, List.getD_eq_getElem?_getD, List.getElem?_eq_getElem h]; rfl
theorem markPlateS_loop (n : Nat) (hn : n ≤ 1000000000000) (m : Int) (hm : 0 ≤ m) (hm2 : m ≤ 1000000000000) : ∀ (d i : Nat) (acc : List S30), i ≤ n → n - i = d → acc.length = n → acc.take i = (runP m n).take i →
    Ev (fun k => laws_markPlateS.l0 k acc (m + 2 * (i : Int)) (i : Int)) (m + 2 * (n : Int), runP m n) := by
  intro d
  induction d with
  | zero =>
    intro i acc hi hd ha ht
    obtain rfl : i = n := by omega
    refine M.Ev_succ (M.Ev_some fun k => ?_)
    simp only [laws_markPlateS.l0]
    rw [if_neg (by omega), M.take_all ha (runP_length _ _) ht]
  | succ d ih =>
    intro i acc hi hd ha ht
    have e : wrap64 ((i : Int) + 1) = ((i + 1 : Nat) : Int) := by rw [M.w64 (by omega) (by omega)]; omega
    have e2 : wrap64 (m + 2 * (i : Int) + 1) = m + 2 * (i : Int) + 1 := M.w64 (by omega) (by omega)
    have e3 : wrap64 (m + 2 * (i : Int) + 1 + 1) = m + 2 * ((i + 1 : Nat) : Int) := by rw [M.w64 (by omega) (by omega)]; omega
    refine M.Ev_succ ?_
    simp only [laws_markPlateS.l0, show (i : Int) < (acc.length : Int) by omega, show (0 : Int) ≤ (i : Int) by omega, if_true, e, e2, e3, Int.toNat_natCast, Option.bind_some]
    have hs : ∀ v : S30, rd_T30 (acc.set i v) (i : Int) = v := fun v => by
      rw [rdT_get (by rw [List.length_set]; omega)]; simp
    simp only [hs, List.set_set]
    refine ih (i + 1) _ (by omega) (by omega) (by rw [List.length_set]; exact ha) ?_
    exact M.take_set_succ (by omega) (by rw [runP_length]; omega) ht (by rw [runP_get])
theorem markPlateS_ev (l : List S30) (hl : l.length ≤ 1000000000000) (m : Int) (hm : 0 ≤ m) (hm2 : m ≤ 1000000000000) : Ev (fun k => laws_markPlateS.f k l m) (m + 2 * (l.length : Int), runP m l.length) := by
  unfold laws_markPlateS.f
  have := markPlateS_loop l.length hl m hm hm2 l.length 0 l (by omega) (by omega) rfl (by simp)
  simpa using this
/-- The elements of a list are plates. -/
def Plates (l : List S30) : Prop := ∀ x ∈ l, M.plateB x.f0 x.f1 = true
/-- They are strictly one behind the other. -/
def Rising (l : List S30) : Prop := l.Pairwise (fun x y => M.rank x.f0 x.f1 < M.rank y.f0 y.f1)
theorem prk_get {l : List S30} {j : Nat} (hj : j < l.length) : prk l j = M.rank l[j].f0 l[j].f1 := by
  unfold prk pn pl
  rw [rdT_get hj]
theorem good_iff (l : List S30) : Good l ↔ 1 ≤ l.length ∧ l.length ≤ 60 ∧ Plates l ∧ Rising l := by
  constructor
  · intro h
    refine ⟨h.1, h.2.1, fun x hx => ?_, ?_⟩
    · obtain ⟨j, hj, rfl⟩ := List.getElem_of_mem hx
      have := h.2.2.1 j hj
      unfold pn pl at this
      rwa [rdT_get hj] at this
    · unfold Rising
      rw [List.pairwise_iff_getElem]
      intro i j hi hj hij
      rw [← prk_get hi, ← prk_get hj]
      exact good_lt h hij hj
  · rintro ⟨h1, h2, h3, h4⟩
    refine ⟨h1, h2, fun i hi => ?_, fun i hi => ?_⟩
    · unfold pn pl
      rw [rdT_get hi]
      exact h3 _ (List.getElem_mem hi)
    · unfold Rising at h4
      rw [List.pairwise_iff_getElem] at h4
      rw [prk_get (by omega), prk_get hi]
      exact h4 i (i + 1) (by omega) hi (by omega)
theorem rk_eq {x : S30} (h : M.plateB x.f0 x.f1 = true) : impl_Plate_38.rk x = M.rank x.f0 x.f1 := by
  have h' := M.plateB_iff.1 h
  unfold impl_Plate_38.rk M.rank
  rw [M.w64 (x := x.f0 * 27) (by omega) (by omega), M.w64 (by omega) (by omega)]
theorem plate_ext {x y : S30} (hx : M.plateB x.f0 x.f1 = true) (hy : M.plateB y.f0 y.f1 = true) (e : M.rank x.f0 x.f1 = M.rank y.f0 y.f1) : x = y := by
  obtain ⟨e0, e1⟩ := M.rank_inj hx hy e
  cases x; cases y
  simp only at e0 e1
  rw [e0, e1]
/-- There is one way alone to lay plates one behind the other. -/
theorem sorted_eq {l m : List S30} (hp : m.Perm l) (hm : Plates m) (hr : Rising m) : impl_Plate_38.sorted l = m := by
  obtain ⟨h1, h2⟩ := impl_Plate_38.sorts l
  have h3 := h1.trans hp.symm
  refine List.Perm.eq_of_pairwise (le := fun x y => impl_Plate_38.rk x ≤ impl_Plate_38.rk y) (fun a b ha hb hab hba => ?_) h2 ?_ h3
  · have pa := hm a (h3.mem_iff.1 ha)
    have pb := hm b hb
    rw [rk_eq pa, rk_eq pb] at hab hba
    exact plate_ext pa pb (by omega)
  · refine List.Pairwise.imp_of_mem (fun {a b} ha hb hab => ?_) hr
    rw [rk_eq (hm a ha), rk_eq (hm b hb)]
    omega
theorem rising_nodup {l : List S30} (h : Rising l) : l.Nodup := by
  refine List.Pairwise.imp (fun {a b} hab e => ?_) h
  rw [e] at hab
  omega
noncomputable instance memDec (x : S30) (l : List S30) : Decidable (x ∈ l) := Classical.propDecidable _
theorem sortF_eq (l : List S30) (h0 : 0 < l.length) (h1 : l.length ≤ 1000000) (n : Int) : impl_Plate_38.f l n = some (impl_Plate_38.sorted l) := by
  unfold impl_Plate_38.f
  rw [if_pos ⟨h0, by omega⟩]
theorem sorted_length (l : List S30) : (impl_Plate_38.sorted l).length = l.length := (impl_Plate_38.sorts l).1.length_eq
noncomputable def checkR (l : List S30) : List S30 × Bool := if Good (impl_Plate_38.sorted l) then (impl_Plate_38.sorted l, true) else ([], false)
theorem checkR_length (l : List S30) : (checkR l).1.length ≤ 60 := by
  unfold checkR
  split
  · rename_i h; exact h.2.1
  · simp
/-- checkedPlates: the list in its order, if that is good. -/
theorem checked_ev (l : List S30) (h0 : 0 < l.length) (h1 : l.length ≤ 1000000) : Ev (fun k => impl_checkedPlates.f k l) (checkR l) := by
  unfold impl_checkedPlates.f checkR
  simp only [sortF_eq l h0 h1, Option.bind_some]
  obtain ⟨b, _, h2, h3⟩ := good_both (impl_Plate_38.sorted l) (by rw [sorted_length]; omega)
  refine Ev.bind h2 (M.Ev_some fun k => ?_)
  cases b with
  | true => rw [if_pos rfl, if_pos (h3.1 rfl)]
  | false => rw [if_neg (by simp), if_neg (fun z => by simpa using h3.2 z)]
theorem take_of {l : List S30} {m : Nat} {x : S30} (h : x ∈ l.take m) : ∃ j, j < m ∧ ∃ hj : j < l.length, l[j] = x := by
  obtain ⟨j, hj, e⟩ := List.getElem_of_mem h
  rw [List.length_take] at hj
  exact ⟨j, by omega, by omega, by rw [← e]; simp⟩
theorem drop_of {l : List S30} {m : Nat} {x : S30} (h : x ∈ l.drop m) : ∃ j, m ≤ j ∧ ∃ hj : j < l.length, l[j] = x := by
  obtain ⟨j, hj, e⟩ := List.getElem_of_mem h
  rw [List.length_drop] at hj
  exact ⟨m + j, by omega, by omega, by rw [← e]; simp⟩
/-- A plate that is not there, put in in its place. -/
theorem put_rising {l : List S30} (hg : Good l) {a b : Int} (hp : M.plateB a b = true) {m : Nat} (hm : m ≤ l.length) (h3 : ∀ j, j < m → prk l j < M.rank a b) (h4 : m < l.length → M.rank a b ≤ prk l m) (hn : ¬ (m < l.length ∧ pn l m = a ∧ pl l m = b)) :
    Plates (l.take m ++ ⟨a, b⟩ :: l.drop m) ∧ Rising (l.take m ++ ⟨a, b⟩ :: l.drop m) := by
  obtain ⟨_, _, g3, g4⟩ := (good_iff l).1 hg
  have hlt : ∀ j, m ≤ j → (hj : j < l.length) → M.rank a b < prk l j := by
    intro j hmj hj
    have h5 := h4 (by omega)
    have h6 : M.rank a b ≠ prk l m := fun e => by
      have hml : m < l.length := by omega
      obtain ⟨e1, e2⟩ := M.rank_inj hp (hg.2.2.1 m hml) e
      exact hn ⟨hml, e1.symm, e2.symm⟩
    by_cases c : j = m
    · subst c; omega
    · have := good_lt hg (i := m) (j := j) (by omega) hj
      omega
  refine ⟨fun x hx => ?_, ?_⟩
  · rcases List.mem_append.1 hx with h | h
    · exact g3 x (List.mem_of_mem_take h)
    · rcases List.mem_cons.1 h with rfl | h
      · exact hp
      · exact g3 x (List.mem_of_mem_drop h)
  · unfold Rising
    rw [List.pairwise_append, List.pairwise_cons]
    refine ⟨List.Pairwise.sublist (List.take_sublist m l) g4, ⟨fun y hy => ?_, List.Pairwise.sublist (List.drop_sublist m l) g4⟩, fun x hx y hy => ?_⟩
    · obtain ⟨j, hmj, hj, rfl⟩ := drop_of hy
      have := hlt j hmj hj
      rw [prk_get hj] at this
      exact this
    · obtain ⟨i, him, hi, rfl⟩ := take_of hx
      have h5 := h3 i him
      rw [prk_get hi] at h5
      rcases List.mem_cons.1 hy with rfl | hy
      · exact h5
      · obtain ⟨j, hmj, hj, rfl⟩ := drop_of hy
        have := hlt j hmj hj
        rw [prk_get hj] at this
        omega
/-- The reference puts a plate in as the program does. -/
theorem isAdd_ev (l : List S30) (hg : Good l) (a b : Int) (hp : M.plateB a b = true) : Ev (fun k => spec_isAdd.f k l a b) (checkR (l ++ [⟨a, b⟩])) := by
  obtain ⟨m, h2, h3, h4, h5⟩ := isPlace_ev l hg a b hp
  have hl60 := hg.2.1
  unfold spec_isAdd.f
  refine Ev.bind h5 (M.Ev_some fun k => ?_)
  by_cases c : m < l.length ∧ pn l m = a ∧ pl l m = b
  · simp only [c, and_self, decide_true, if_true]
    unfold checkR
    rw [if_neg]
    intro hb
    have hnd := rising_nodup ((good_iff _).1 hb).2.2.2
    rw [(impl_Plate_38.sorts _).1.nodup_iff, List.nodup_append] at hnd
    have hmem : (⟨a, b⟩ : S30) ∈ l := by
      have e1 : l[m]'c.1 = ⟨a, b⟩ := by
        have e0 := c.2
        unfold pn pl at e0
        rw [rdT_get c.1] at e0
        cases hx : l[m]'c.1
        rw [hx] at e0
        simp only at e0
        rw [e0.1, e0.2]
      rw [← e1]
      exact List.getElem_mem _
    exact hnd.2.2 _ hmem _ (by simp) rfl
  · simp only [c, decide_false, Bool.false_eq_true, if_false]
    by_cases c6 : l.length = 60
    · rw [if_pos (by omega)]
      unfold checkR
      rw [if_neg]
      intro hb
      have := hb.2.1
      rw [sorted_length] at this
      simp at this
      omega
    · obtain ⟨p1, p2⟩ := put_rising hg hp h2 h3 h4 c
      have hperm : (l.take m ++ ⟨a, b⟩ :: l.drop m).Perm (l ++ [⟨a, b⟩]) := by
        have e1 : (l.take m ++ ⟨a, b⟩ :: l.drop m).Perm (⟨a, b⟩ :: (l.take m ++ l.drop m)) := List.perm_middle
        rw [List.take_append_drop] at e1
        have e2 := List.perm_append_comm (l₁ := [(⟨a, b⟩ : S30)]) (l₂ := l)
        rw [List.singleton_append] at e2
        exact e1.trans e2
      have hs := sorted_eq hperm p1 p2
      have hgood : Good (l.take m ++ ⟨a, b⟩ :: l.drop m) := (good_iff _).2 ⟨by simp; omega, by simp; omega, p1, p2⟩
      unfold checkR
      rw [hs, if_pos hgood, if_neg (by omega)]
      simp only [Option.bind_some, List.length_nil, Nat.zero_add, List.nil_append, List.length_singleton, Int.toNat_natCast]
      rw [if_pos (by omega), if_pos (by omega), if_pos (by rw [List.length_take]; omega), if_pos (by simp; omega), if_pos (by simp; omega)]
      simp
theorem good_sorted (l : List S30) : Good (impl_Plate_38.sorted l) ↔ 1 ≤ l.length ∧ l.length ≤ 60 ∧ Plates l ∧ l.Nodup := by
  obtain ⟨h1, h2⟩ := impl_Plate_38.sorts l
  rw [good_iff, sorted_length]
  constructor
  · rintro ⟨a, b, c, d⟩
    exact ⟨a, b, fun x hx => c x (h1.mem_iff.2 hx), h1.nodup_iff.1 (rising_nodup d)⟩
  · rintro ⟨a, b, c, d⟩
    have hc : Plates (impl_Plate_38.sorted l) := fun x hx => c x (h1.mem_iff.1 hx)
    have hd : (impl_Plate_38.sorted l).Pairwise (fun x y => x ≠ y) := h1.nodup_iff.2 d
    refine ⟨a, b, hc, List.Pairwise.imp_of_mem (fun {x y} hx hy hxy => ?_) (List.Pairwise.and h2 hd)⟩
    obtain ⟨e1, e2⟩ := hxy
    rw [rk_eq (hc x hx), rk_eq (hc y hy)] at e1
    have e3 : M.rank x.f0 x.f1 ≠ M.rank y.f0 y.f1 := fun z => e2 (plate_ext (hc x hx) (hc y hy) z)
    omega
theorem checkR_perm {l m : List S30} (h : l.Perm m) : checkR l = checkR m := by
  have hg : Good (impl_Plate_38.sorted l) ↔ Good (impl_Plate_38.sorted m) := by
    rw [good_sorted, good_sorted, h.length_eq, h.nodup_iff]
    have : Plates l ↔ Plates m := ⟨fun z x hx => z x (h.mem_iff.2 hx), fun z x hx => z x (h.mem_iff.1 hx)⟩
    rw [this]
  unfold checkR
  by_cases c : Good (impl_Plate_38.sorted m)
  · rw [if_pos c, if_pos (hg.2 c)]
    obtain ⟨_, _, c3, c4⟩ := (good_iff _).1 c
    rw [sorted_eq ((impl_Plate_38.sorts m).1.trans h.symm) c3 c4]
  · rw [if_neg c, if_neg (fun z => c (hg.1 z))]
theorem checkR_good {l : List S30} (h : Good l) : checkR l = (l, true) := by
  obtain ⟨_, _, c3, c4⟩ := (good_iff _).1 h
  have e := sorted_eq (List.Perm.refl l) c3 c4
  unfold checkR
  rw [e, if_pos h]
theorem join_loop (a b : List S30) (ha : Good a) (hb : Good b) : ∀ (d i : Nat) (out : List S30), i ≤ b.length → b.length - i = d → Good out → out.Perm (a ++ b.take i) → Ev (fun k => spec_JoinPlates.l0 k out b (b.length : Int) (i : Int)) (checkR (a ++ b)) := by
  have hb60 := hb.2.1
  intro d
  induction d with
  | zero =>
    intro i out hi hd hg hp
    obtain rfl : i = b.length := by omega
    rw [List.take_length] at hp
    refine M.Ev_succ (M.Ev_some fun k => ?_)
    simp only [spec_JoinPlates.l0]
    rw [if_neg (by omega), ← checkR_perm hp, checkR_good hg]
  | succ d ih =>
    intro i out hi hd hg hp
    have hib : i < b.length := by omega
    have e : wrap64 ((i : Int) + 1) = ((i + 1 : Nat) : Int) := by rw [M.w64 (by omega) (by omega)]; omega
    have hx : M.plateB b[i].f0 b[i].f1 = true := ((good_iff b).1 hb).2.2.1 _ (List.getElem_mem hib)
    have hadd := isAdd_ev out hg _ _ hx
    have hxe : (⟨b[i].f0, b[i].f1⟩ : S30) = b[i] := rfl
    rw [hxe] at hadd
    have hp2 : (out ++ [b[i]]).Perm (a ++ b.take (i + 1)) := by
      rw [List.take_succ_eq_append_getElem hib, ← List.append_assoc]
      exact hp.append_right _
    refine M.Ev_succ ?_
    simp only [spec_JoinPlates.l0, show (i : Int) < (b.length : Int) by omega, show (0 : Int) ≤ (i : Int) by omega, if_true, rdT_get hib, e]
    refine Ev.bind hadd ?_
    by_cases c : Good (impl_Plate_38.sorted (out ++ [b[i]]))
    · have e2 : checkR (out ++ [b[i]]) = (impl_Plate_38.sorted (out ++ [b[i]]), true) := by unfold checkR; rw [if_pos c]
      rw [e2]
      simp only [if_true]
      exact ih (i + 1) _ (by omega) (by omega) c ((impl_Plate_38.sorts _).1.trans hp2)
    · have e2 : checkR (out ++ [b[i]]) = ([], false) := by unfold checkR; rw [if_neg c]
      rw [e2]
      refine M.Ev_some fun k => ?_
      simp only [Bool.false_eq_true, if_false]
      unfold checkR
      rw [if_neg]
      intro z
      apply c
      rw [good_sorted] at z ⊢
      have hs : (a ++ b.take (i + 1)).Sublist (a ++ b) := List.Sublist.append_left (List.take_sublist _ _) _
      refine ⟨by simp, ?_, fun x hx => ?_, ?_⟩
      · have := hs.length_le
        rw [hp2.length_eq]
        omega
      · exact z.2.2.1 x (hs.subset (hp2.mem_iff.1 hx))
      · rw [hp2.nodup_iff]
        exact hs.nodup z.2.2.2
noncomputable def joinP (a b : List S30) : List S30 × Bool := if Good a ∧ Good b then checkR (a ++ b) else ([], false)
theorem joinP_length (a b : List S30) : (joinP a b).1.length ≤ 60 := by
  unfold joinP
  split
  · exact checkR_length _
  · simp
/-- JoinPlates: both give all plates of both in their order. -/
theorem JoinPlates_ev (a b : List S30) (h1 : a.length ≤ 1000000000000) (h2 : b.length ≤ 1000000000000) : Ev (fun k => spec_JoinPlates.f k a b) (joinP a b) ∧ Ev (fun k => impl_JoinPlates.f k a b) (joinP a b) := by
  obtain ⟨ga, a1, a2, a3⟩ := good_both a (by omega)
  obtain ⟨gb, b1, b2, b3⟩ := good_both b (by omega)
  unfold spec_JoinPlates.f impl_JoinPlates.f joinP
  cases ga with
  | false =>
    have hg : ¬ Good a := fun z => by simpa using a3.2 z
    simp only [hg, false_and, if_false]
    exact ⟨Ev.bind a1 (M.Ev_succ (M.Ev_some fun k => by simp [spec_JoinPlates.j0])), Ev.bind a2 (M.Ev_some fun k => rfl)⟩
  | true =>
    have hg : Good a := a3.1 rfl
    cases gb with
    | false =>
      have hgb : ¬ Good b := fun z => by simpa using b3.2 z
      simp only [hgb, and_false, if_false]
      refine ⟨Ev.bind a1 ?_, Ev.bind a2 ?_⟩
      · simp only [if_true]
        exact Ev.bind b1 (M.Ev_succ (M.Ev_some fun k => by simp [spec_JoinPlates.j0]))
      · simp only [if_true]
        exact Ev.bind b2 (M.Ev_some fun k => rfl)
    | true =>
      have hgb : Good b := b3.1 rfl
      have la := hg.2.1
      have la1 := hg.1
      have lb := hgb.2.1
      simp only [hg, hgb, and_self, if_true]
      refine ⟨Ev.bind a1 ?_, Ev.bind a2 ?_⟩
      · simp only [if_true]
        refine Ev.bind b1 (M.Ev_succ ?_)
        simp only [spec_JoinPlates.j0, Bool.not_true, Bool.false_eq_true, if_false, Option.bind_some, List.length_nil, Nat.zero_add, List.nil_append, show a.length < 8796093022208 by omega, if_true]
        exact join_loop a b hg hgb b.length 0 a (by omega) (by omega) hg (by simp)
      · simp only [if_true]
        refine Ev.bind b2 ?_
        simp only [if_true, show 0 < a.length ∧ a.length ≤ 1000000 ∧ b.length ≤ 1000000 by omega]
        exact Ev.bind (checked_ev _ (by simp; omega) (by simp; omega)) (M.Ev_some fun k => rfl)
theorem toPlate_eq (n l : Int) : laws_toPlate.f n l = some (n, l) := rfl
def conv (l : List S24) : List S30 := l.map fun p => ⟨p.f0, p.f1⟩
theorem conv_length (l : List S24) : (conv l).length = l.length := by simp [conv]
theorem toPlateS_loop (l : List S24) (hl : l.length ≤ 1000000000000) : ∀ (d i : Nat) (acc : List S30), i ≤ l.length → l.length - i = d → acc.length = l.length → acc.take i = (conv l).take i →
    Ev (fun k => laws_toPlateS.l0 k l acc (i : Int)) (conv l) := by
  intro d
  induction d with
  | zero =>
    intro i acc hi hd ha ht
    obtain rfl : i = l.length := by omega
    refine M.Ev_succ (M.Ev_some fun k => ?_)
    simp only [laws_toPlateS.l0]
    rw [if_neg (by omega)]
    rw [List.take_of_length_le (by omega), List.take_of_length_le (by rw [conv_length]; omega)] at ht
    rw [ht]
  | succ d ih =>
    intro i acc hi hd ha ht
    have hil : i < l.length := by omega
    have e : wrap64 ((i : Int) + 1) = ((i + 1 : Nat) : Int) := by rw [M.w64 (by omega) (by omega)]; omega
    refine M.Ev_succ ?_
    simp only [laws_toPlateS.l0, show (i : Int) < (l.length : Int) by omega, show (0 : Int) ≤ (i : Int) by omega, if_true, toPlate_eq, Option.bind_some, show (i : Int) < (acc.length : Int) by omega, e, Int.toNat_natCast]
    refine ih (i + 1) _ (by omega) (by omega) (by rw [List.length_set]; exact ha) ?_
    have hr : rd_T24 l (i : Int) = l[i] := by
      unfold rd_T24
      rw [Int.toNat_natCast, List.getD_eq_getElem?_getD, List.getElem?_eq_getElem hil]; rfl
    rw [List.take_succ_eq_append_getElem (by rw [List.length_set]; omega), List.take_succ_eq_append_getElem (by rw [conv_length]; omega), List.take_set, List.set_eq_of_length_le (by simp; omega), ht]
    congr 1
    simp [conv, hr]
theorem toPlateS_ev (l : List S24) (hl : l.length ≤ 1000000000000) : Ev (fun k => laws_toPlateS.f k l) (conv l) := by
  unfold laws_toPlateS.f
  simp only [show (0 : Int) ≤ (l.length : Int) by omega, if_true, Int.toNat_natCast, show l.length ≤ 17592186044416 by omega]
  exact toPlateS_loop l hl l.length 0 _ (by omega) (by omega) (by simp) (by simp)
theorem eqPlate_refl (n l : Int) : laws_eqPlate.f n l n l = some true := by
  unfold laws_eqPlate.f; rw [if_pos rfl, if_pos rfl]
theorem eqPlateS_loop (l : List S30) (hl : l.length ≤ 1000000000000) : ∀ (d i : Nat), i ≤ l.length → l.length - i = d → Ev (fun k => laws_eqPlateS.l0 k l l (i : Int)) true := by
  intro d
  induction d with
  | zero =>
    intro i hi hd
    refine M.Ev_succ (M.Ev_some fun k => ?_)
    simp only [laws_eqPlateS.l0]
    rw [if_neg (by omega)]
  | succ d ih =>
    intro i hi hd
    have e : wrap64 ((i : Int) + 1) = ((i + 1 : Nat) : Int) := by rw [M.w64 (by omega) (by omega)]; omega
    refine M.Ev_succ ?_
    simp only [laws_eqPlateS.l0, show (i : Int) < (l.length : Int) by omega, show (0 : Int) ≤ (i : Int) by omega, if_true, eqPlate_refl, Option.bind_some, e]
    exact ih (i + 1) (by omega) (by omega)
theorem eqPlateS_ev (l : List S30) (hl : l.length ≤ 1000000000000) : Ev (fun k => laws_eqPlateS.f k l l) true := by
  unfold laws_eqPlateS.f
  simp only [if_true]
  exact eqPlateS_loop l hl l.length 0 (by omega) (by omega)
theorem heldPlateS_loop (n : Nat) (hn : n ≤ 1000000000000) (m : Int) (hm : 0 ≤ m) (hm2 : m ≤ 1000000000000) : ∀ (d i : Nat), i ≤ n → n - i = d → Ev (fun k => laws_heldPlateS.l0 k (runP m n) (m + 2 * (i : Int)) (i : Int)) (m + 2 * (n : Int)) := by
  intro d
  induction d with
  | zero =>
    intro i hi hd
    obtain rfl : i = n := by omega
    refine M.Ev_succ (M.Ev_some fun k => ?_)
    simp only [laws_heldPlateS.l0]
    rw [if_neg (by rw [runP_length]; omega)]
  | succ d ih =>
    intro i hi hd
    have e : wrap64 ((i : Int) + 1) = ((i + 1 : Nat) : Int) := by rw [M.w64 (by omega) (by omega)]; omega
    have e2 : wrap64 (m + 2 * (i : Int) + 1) = m + 2 * (i : Int) + 1 := M.w64 (by omega) (by omega)
    have e3 : wrap64 (m + 2 * (i : Int) + 1 + 1) = m + 2 * ((i + 1 : Nat) : Int) := by rw [M.w64 (by omega) (by omega)]; omega
    have hr : rd_T30 (runP m n) (i : Int) = ⟨m + 2 * (i : Int), m + 2 * (i : Int) + 1⟩ := by rw [rdT_get (by rw [runP_length]; omega), runP_get]
    refine M.Ev_succ ?_
    simp only [laws_heldPlateS.l0, show (i : Int) < ((runP m n).length : Int) by rw [runP_length]; omega, show (0 : Int) ≤ (i : Int) by omega, if_true, hr, e, e2, e3]
    exact ih (i + 1) (by omega) (by omega)
theorem heldPlateS_ev (n : Nat) (hn : n ≤ 1000000000000) (m : Int) (hm : 0 ≤ m) (hm2 : m ≤ 1000000000000) : Ev (fun k => laws_heldPlateS.f k (runP m n) m) (m + 2 * (n : Int)) := by
  unfold laws_heldPlateS.f
  have := heldPlateS_loop n hn m hm hm2 n 0 (by omega) (by omega)
  simpa using this
theorem sz_big (l : List S24) (hl : l.length * 16 ≤ 140737488351232) (c : 1048576 < l.length) : laws_szPlateS.f l 1048576 = some (-1) := by
  unfold laws_szPlateS.f
  rw [M.w64 (x := 1048576 - (l.length : Int)) (by omega) (by omega), if_pos (by omega)]
theorem sz_small (l : List S24) (c : ¬ 1048576 < l.length) : laws_szPlateS.f l 1048576 = some (1048576 - (l.length : Int)) := by
  unfold laws_szPlateS.f
  rw [M.w64 (x := 1048576 - (l.length : Int)) (by omega) (by omega), if_neg (by omega)]
theorem szPlateS_eq (l : List S24) (hl : l.length ≤ 10000000000000) (n : Int) (h0 : 0 ≤ n) (hn : n ≤ 1048576) : laws_szPlateS.f l n = some (if n < (l.length : Int) then -1 else n - l.length) := by
  unfold laws_szPlateS.f
  rw [M.w64 (x := n - (l.length : Int)) (by omega) (by omega)]
  by_cases c : n < (l.length : Int)
  · rw [if_pos (by omega), if_pos c]
  · rw [if_neg (by omega), if_neg c]
def laws_FnExactJoinPlates.Pure : Prop := ∀ (l0 : List S24) (l1 : List S24), (∀ x ∈ l0, (Lit.int .i64 x.f0).wf = true ∧ (Lit.int .i64 x.f1).wf = true) → l0.length * 16 ≤ 140737488351232 → (∀ x ∈ l1, (Lit.int .i64 x.f0).wf = true ∧ (Lit.int .i64 x.f1).wf = true) → l1.length * 16 ≤ 140737488351232 → ∃ k, laws_FnExactJoinPlates.f k l0 l1 = some true
theorem FnExactJoinPlates : laws_FnExactJoinPlates.Pure := by
  intro l m _ hl _ hm
  refine Ev.rounds (r := true) ?_
  unfold laws_FnExactJoinPlates.f
  by_cases c : 1048576 < l.length
  · simp only [sz_big l hl c, Option.bind_some]; exact M.Ev_some fun k => rfl
  · simp only [sz_small l c, Option.bind_some, show ¬ ((1048576 : Int) - (l.length : Int) < 0) by omega, if_false, szPlateS_eq m (show m.length ≤ 10000000000000 by omega) ((1048576 : Int) - (l.length : Int)) (by omega) (by omega)]
    by_cases c2 : (1048576 : Int) - (l.length : Int) < (m.length : Int)
    · simp only [c2, if_true]; exact M.Ev_some fun k => rfl
    · simp only [c2, if_false, show ¬ ((1048576 : Int) - (l.length : Int) - (m.length : Int) < 0) by omega]
      have hc : (conv l).length ≤ 1000000000000 := by rw [conv_length]; omega
      have hd : (conv m).length ≤ 1000000000000 := by rw [conv_length]; omega
      obtain ⟨h1, h2⟩ := JoinPlates_ev (conv l) (conv m) hc hd
      have hr : (joinP (conv l) (conv m)).1.length ≤ 1000000000000 := by have := joinP_length (conv l) (conv m); omega
      have hcl : (conv l).length ≤ 1048576 := by rw [conv_length]; omega
      generalize joinP (conv l) (conv m) = r at h1 h2 hr
      have ht := toPlateS_ev l (by omega)
      have hu := toPlateS_ev m (by omega)
      refine Ev.bind ht (Ev.bind hu (Ev.bind h1 (Ev.bind ht (Ev.bind hu (Ev.bind h2 (Ev.bind (eqPlateS_ev r.1 hr) ?_))))))
      simp only [if_true, bne_self_eq_false]
      refine M.Ev_succ ?_
      simp only [laws_FnExactJoinPlates.j0, Bool.false_eq_true, if_false]
      refine Ev.bind ht (Ev.bind (eqPlateS_ev (conv l) hc) ?_)
      simp only [if_true]
      refine Ev.bind hu (Ev.bind (eqPlateS_ev (conv m) hd) ?_)
      simp only [if_true]
      refine Ev.bind (markPlateS_ev (conv l) hc 1 (by omega) (by omega)) (Ev.bind (markPlateS_ev (conv m) hd _ (by omega) (by omega)) ?_)
      simp only [show ¬ ((1 : Int) + 2 * ((conv l).length : Int) + 2 * ((conv m).length : Int) < 0) by omega, if_false]
      refine Ev.bind (eqPlateS_ev r.1 hr) ?_
      simp only [if_true, bne_self_eq_false]
      refine M.Ev_succ ?_
      simp only [laws_FnExactJoinPlates.j1, Bool.false_eq_true, if_false]
      refine Ev.bind (markPlateS_ev r.1 hr 1 (by omega) (by omega)) (Ev.bind (heldPlateS_ev r.1.length hr 1 (by omega) (by omega)) ?_)
      simp only [show ¬ ((1 : Int) + 2 * (r.1.length : Int) < 0) by omega, if_false, if_true]
      refine Ev.bind ht (Ev.bind hu (Ev.bind h2 (Ev.bind (eqPlateS_ev r.1 hr) ?_)))
      simp only [if_true, bne_self_eq_false]
      refine M.Ev_succ ?_
      simp only [laws_FnExactJoinPlates.j2, Bool.false_eq_true, if_false]
      refine Ev.bind (heldPlateS_ev r.1.length hr 1 (by omega) (by omega)) (M.Ev_some fun k => ?_)
      rw [if_neg (by omega), if_pos rfl]

end Go.Proofs.Ytflifmlgpndjjaa.Pure
