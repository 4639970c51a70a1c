/- The program's RangesWithSum and the reference's answer the same for all numbers, and the result shares no memory: no further condition. -/
import Derived.Test.YtfoefaniefmgoaaM
import Derived.Test.YtfoefaniefmgoaaPFnExactRangesWithSumx2
namespace Go.Proofs.Ytfoefaniefmgoaa.Pure
open Go.RowKit Go.Proofs.Ytfoefaniefmgoaa.PFnExactRangesWithSum Go.Proofs.YtfoefaniefmgoaaW.PrintWords Go.Proofs.YtfoefaniefmgoaaW.PrintLast Go.Proofs.YtfoefaniefmgoaaW.PrintMore
set_option linter.unusedVariables false
set_option linter.unusedSimpArgs false
theorem spec_l1In_eq (a b c : Int) : spec_l1In.f a b c = some (decide (b ≤ a ∧ a ≤ c)) := by
  unfold spec_l1In.f
  by_cases h : a ≥ b
  · rw [if_pos h]; simp [show b ≤ a from h]
  · rw [if_neg h]; simp [show ¬ b ≤ a from h]
theorem impl_within_eq (a b c : Int) : impl_within.f a b c = some (decide (b ≤ a ∧ a ≤ c)) := by
  unfold impl_within.f
  by_cases h : a ≥ b
  · rw [if_pos h]; simp [show b ≤ a from h]
  · rw [if_neg h]; simp [show ¬ b ≤ a from h]
def tri : Nat → Nat
  | 0 => 0
  | n + 1 => tri n + (n + 1)
theorem tri_two : ∀ n, (n + 1) * n = 2 * tri n
  | 0 => rfl
  | n + 1 => by
    have := tri_two n
    have e : (n + 1 + 1) * (n + 1) = (n + 1) * n + 2 * (n + 1) := by rw [Nat.add_mul, Nat.mul_add (n + 1)]; omega
    rw [e, this, tri]
    omega
theorem tri_ge : ∀ n, n ≤ tri n
  | 0 => Nat.le_refl _
  | n + 1 => by have := tri_ge n; rw [tri]; omega
theorem tri_mono {n m : Nat} (h : n ≤ m) : tri n ≤ tri m := by
  induction h with
  | refl => exact Nat.le_refl _
  | step _ ih => rw [tri]; omega
theorem tri_bd {n : Nat} (h : n ≤ 100001) : tri n ≤ 10000300002 := by
  have h1 := tri_two n
  have := Nat.mul_le_mul (show n + 1 ≤ 100002 by omega) h
  omega
/-- The numbers from the first one on, n + 1 of them, with this sum: none or one range. -/
def item (s n : Nat) : List (List Int) := if tri n < s ∧ (s - tri n) % (n + 1) = 0 then [[(((s - tri n) / (n + 1) : Nat) : Int), (((s - tri n) / (n + 1) + n : Nat) : Int)]] else []
def accR (s : Nat) : Nat → List (List Int)
  | 0 => []
  | n + 1 => accR s n ++ item s n
theorem item_len (s n : Nat) : (item s n).length ≤ 1 := by unfold item; split <;> simp
theorem item_rev (s n : Nat) : (item s n).reverse = item s n := by unfold item; split <;> simp
theorem accR_len (s : Nat) : ∀ n, (accR s n).length ≤ n
  | 0 => by simp [accR]
  | n + 1 => by have := accR_len s n; have := item_len s n; simp only [accR, List.length_append]; omega
theorem accR_rows (s : Nat) : ∀ n, ∀ r ∈ accR s n, r.length = 2
  | 0 => by simp [accR]
  | n + 1 => by
    intro r hr
    simp only [accR, List.mem_append] at hr
    rcases hr with h | h
    · exact accR_rows s n r h
    · unfold item at h
      split at h
      · rw [List.mem_singleton.1 h]; rfl
      · simp at h
/-- The steps' numbers as the machine has them. -/
theorem tri_dn {n : Nat} (hn : n ≤ 100000) : wrap64 (Int.tdiv (wrap64 (((n + 1 : Nat) : Int) * (wrap64 (((n + 1 : Nat) : Int) - 1)))) 2) = ((tri n : Nat) : Int) := by
  have h1 := tri_two n
  have h2 := tri_bd (n := n) (by omega)
  have e1 : wrap64 (((n + 1 : Nat) : Int) - 1) = (n : Int) := by rw [M.w64 (by omega) (by omega)]; omega
  rw [e1, ← Int.natCast_mul, h1, M.w64 (x := ((2 * tri n : Nat) : Int)) (by omega) (by omega), M.tdiv_pos (by omega), M.w64 (by omega) (by omega)]
  omega
theorem tri_up {n : Nat} (hn : n ≤ 100000) : wrap64 (Int.tdiv (wrap64 (((n + 1 : Nat) : Int) * (wrap64 (((n + 1 : Nat) : Int) + 1)))) 2) = ((tri (n + 1) : Nat) : Int) := by
  have h1 := tri_two (n + 1)
  have h2 := tri_bd (n := n + 1) (by omega)
  have e1 : wrap64 (((n + 1 : Nat) : Int) + 1) = ((n + 1 + 1 : Nat) : Int) := by rw [M.w64 (by omega) (by omega)]; omega
  rw [e1, ← Int.natCast_mul, Nat.mul_comm, h1, M.w64 (x := ((2 * tri (n + 1) : Nat) : Int)) (by omega) (by omega), M.tdiv_pos (by omega), M.w64 (by omega) (by omega)]
  omega
theorem over_eq {s n : Nat} (hs : s ≤ 100000) (hn : n ≤ 100000) : wrap64 ((s : Int) - ((tri n : Nat) : Int)) = (s : Int) - ((tri n : Nat) : Int) := by
  have h2 := tri_bd (n := n) (by omega)
  exact M.w64 (by omega) (by omega)
/-- A range that is told, as the machine tells it. -/
theorem row_eq {s n : Nat} (hs : s ≤ 100000) (hn : n ≤ 100000) (ht : tri n < s) :
    ([wrap64 (Int.tdiv ((s : Int) - ((tri n : Nat) : Int)) ((n + 1 : Nat) : Int)), wrap64 ((wrap64 ((wrap64 (Int.tdiv ((s : Int) - ((tri n : Nat) : Int)) ((n + 1 : Nat) : Int))) + ((n + 1 : Nat) : Int))) - 1)] : List Int) = [(((s - tri n) / (n + 1) : Nat) : Int), (((s - tri n) / (n + 1) + n : Nat) : Int)] := by
  have e0 : (s : Int) - ((tri n : Nat) : Int) = ((s - tri n : Nat) : Int) := by omega
  have e1 : Int.tdiv ((s : Int) - ((tri n : Nat) : Int)) ((n + 1 : Nat) : Int) = (((s - tri n) / (n + 1) : Nat) : Int) := by
    rw [e0, M.tdiv_pos (by omega)]; rfl
  have hd : (s - tri n) / (n + 1) ≤ s - tri n := Nat.div_le_self _ _
  rw [e1]
  generalize (s - tri n) / (n + 1) = q at hd
  rw [M.w64 (x := (q : Int)) (by omega) (by omega), M.w64 (x := (q : Int) + ((n + 1 : Nat) : Int)) (by omega) (by omega), M.w64 (x := (q : Int) + ((n + 1 : Nat) : Int) - 1) (by omega) (by omega)]
  congr 2
  omega
theorem mod_eq {s n : Nat} (ht : tri n < s) : (Int.tmod ((s : Int) - ((tri n : Nat) : Int)) ((n + 1 : Nat) : Int) = 0) ↔ (s - tri n) % (n + 1) = 0 := by
  have e0 : (s : Int) - ((tri n : Nat) : Int) = ((s - tri n : Nat) : Int) := by omega
  rw [e0, M.tmod_pos (by omega)]
  omega
theorem spec_loop (s : Nat) (hs : s ≤ 100000) : ∀ (n : Nat) (acc : List (List Int)), n ≤ s → acc.length + n ≤ 200000 → Ev (fun k => spec_RangesWithSum.l0 k (s : Int) acc (n : Int)) (acc ++ (accR s n).reverse, true) := by
  intro n
  induction n with
  | zero =>
    intro acc hn hl
    refine M.Ev_succ (M.Ev_some fun k => ?_)
    simp [spec_RangesWithSum.l0, accR]
  | succ n ih =>
    intro acc hn hl
    have e1 : wrap64 (((n + 1 : Nat) : Int) - 1) = (n : Int) := by rw [M.w64 (by omega) (by omega)]; omega
    have e2 := tri_dn (n := n) (by omega)
    have e3 := over_eq (n := n) hs (by omega)
    rw [e1] at e2
    refine M.Ev_succ ?_
    simp only [spec_RangesWithSum.l0, show ((n + 1 : Nat) : Int) > 0 by omega, if_true, e1, e2, e3, show ¬ (((n + 1 : Nat) : Int) = 0) by omega, if_false]
    by_cases c : tri n < s
    · simp only [show (s : Int) - ((tri n : Nat) : Int) > 0 by omega, if_true, mod_eq c, row_eq hs (show n ≤ 100000 by omega) c]
      by_cases c2 : (s - tri n) % (n + 1) = 0
      · simp only [c2, if_true, show acc.length < 5864062014805 by omega]
        have hi : item s n = [[(((s - tri n) / (n + 1) : Nat) : Int), (((s - tri n) / (n + 1) + n : Nat) : Int)]] := by unfold item; rw [if_pos ⟨c, c2⟩]
        have := ih (acc ++ item s n) (by omega) (by have := item_len s n; rw [List.length_append]; omega)
        rw [accR, List.reverse_append, item_rev, ← List.append_assoc]
        rw [hi] at this ⊢
        exact this
      · simp only [c2, if_false]
        have hi : item s n = [] := by unfold item; rw [if_neg (fun z => c2 z.2)]
        rw [accR, hi, List.append_nil]
        exact ih acc (by omega) (by omega)
    · simp only [show ¬ ((s : Int) - ((tri n : Nat) : Int) > 0) by omega, if_false]
      have hi : item s n = [] := by unfold item; rw [if_neg (fun z => c z.1)]
      rw [accR, hi, List.append_nil]
      exact ih acc (by omega) (by omega)
theorem accR_end {s n : Nat} (h : s < tri (n + 1)) : ∀ m, n ≤ m → accR s m = accR s n := by
  intro m hm
  induction hm with
  | refl => rfl
  | @step m hm ih =>
    rw [accR, ih]
    have hi : item s m = [] := by
      unfold item
      rw [if_neg]
      rintro ⟨h1, h2⟩
      have h3 := tri_mono (show n + 1 ≤ m + 1 from Nat.succ_le_succ hm)
      have e1 : tri (m + 1) = tri m + (m + 1) := rfl
      have h4 : (s - tri m) % (m + 1) = s - tri m := Nat.mod_eq_of_lt (by omega)
      omega
    rw [hi, List.append_nil]
theorem impl_loop (s : Nat) (hs : s ≤ 100000) : ∀ (d n : Nat), s - n ≤ d → tri n ≤ s → Ev (fun k => impl_RangesWithSum.l0 k (s : Int) (accR s n) ((n + 1 : Nat) : Int)) ((accR s s).reverse, true) := by
  intro d
  induction d with
  | zero =>
    intro n hd ht
    have hg := tri_ge n
    have hns : n = s := by omega
    have e2 := tri_up (n := n) (by omega)
    refine M.Ev_succ (M.Ev_some fun k => ?_)
    have hn : s < tri (n + 1) := by rw [tri]; omega
    simp only [impl_RangesWithSum.l0, e2, show ¬ (((tri (n + 1) : Nat) : Int) ≤ (s : Int)) by omega, if_false]
    rw [hns]
  | succ d ih =>
    intro n hd ht
    have hg := tri_ge n
    have e1 : wrap64 (((n + 1 : Nat) : Int) + 1) = ((n + 1 + 1 : Nat) : Int) := by rw [M.w64 (by omega) (by omega)]; omega
    have e2 := tri_up (n := n) (by omega)
    have e3 := tri_dn (n := n) (by omega)
    have e4 := over_eq (n := n) hs (by omega)
    have hal := accR_len s n
    rw [e1] at e2
    by_cases c : tri (n + 1) ≤ s
    · have c1 : tri n < s := by rw [tri] at c; omega
      have hih := ih (n + 1) (by omega) c
      refine M.Ev_succ ?_
      simp only [impl_RangesWithSum.l0, e1, e2, e3, e4, show ((tri (n + 1) : Nat) : Int) ≤ (s : Int) by omega, if_true, show ¬ (((n + 1 : Nat) : Int) = 0) by omega, if_false, mod_eq c1, row_eq hs (show n ≤ 100000 by omega) c1]
      by_cases c2 : (s - tri n) % (n + 1) = 0
      · have hi : item s n = [[(((s - tri n) / (n + 1) : Nat) : Int), (((s - tri n) / (n + 1) + n : Nat) : Int)]] := by unfold item; rw [if_pos ⟨c1, c2⟩]
        rw [accR, hi] at hih
        simp only [c2, if_true, show (accR s n).length < 5864062014805 by omega]
        exact hih
      · have hi : item s n = [] := by unfold item; rw [if_neg (fun z => c2 z.2)]
        rw [accR, hi, List.append_nil] at hih
        simp only [c2, if_false]
        exact hih
    · refine M.Ev_succ (M.Ev_some fun k => ?_)
      simp only [impl_RangesWithSum.l0, e1, e2, show ¬ (((tri (n + 1) : Nat) : Int) ≤ (s : Int)) by omega, if_false]
      rw [accR_end (n := n) (by omega) s (by omega)]
def rangesR (a : Int) : List (List Int) × Bool := if 1 ≤ a ∧ a ≤ 100000 then ((accR a.toNat a.toNat).reverse, true) else ([], false)
theorem rangesR_len (a : Int) : (rangesR a).1.length ≤ 100000 := by
  unfold rangesR
  split
  · have := accR_len a.toNat a.toNat
    simp only [List.length_reverse]
    omega
  · simp
theorem rangesR_rows (a : Int) : ∀ r ∈ (rangesR a).1, r.length = 2 := by
  unfold rangesR
  split
  · intro r hr
    exact accR_rows _ _ r (List.mem_reverse.1 hr)
  · simp
theorem Ranges_ev (a : Int) : Ev (fun k => spec_RangesWithSum.f k a) (rangesR a) ∧ Ev (fun k => impl_RangesWithSum.f k a) (rangesR a) := by
  unfold spec_RangesWithSum.f impl_RangesWithSum.f rangesR
  simp only [spec_l1In_eq, impl_within_eq, Option.bind_some]
  by_cases c : 1 ≤ a ∧ a ≤ 100000
  · obtain ⟨s, rfl⟩ : ∃ s : Nat, a = (s : Int) := ⟨a.toNat, by omega⟩
    simp only [c, and_self, decide_true, if_true, Int.toNat_natCast]
    refine ⟨?_, ?_⟩
    · have := spec_loop s (by omega) s [] (Nat.le_refl _) (by simp; omega)
      simpa using this
    · exact impl_loop s (by omega) s 0 (by omega) (by simp [tri])
  · simp only [c, decide_false, Bool.false_eq_true, if_false]
    exact ⟨M.Ev_some fun k => rfl, M.Ev_some fun k => rfl⟩
theorem eqIntS_loop (l : List Int) (hl : l.length ≤ 1000000000000) : ∀ (d i : Nat), i ≤ l.length → l.length - i = d → Ev (fun k => laws_eqIntS.l0 k l l (i : Int)) true := by
  intro d
  induction d with
  | zero =>
    intro i hi hd
    refine M.Ev_succ (M.Ev_some fun k => ?_)
    simp only [laws_eqIntS.l0]
    rw [if_neg (by omega)]
  | succ d ih =>
    intro i hi hd
    have e : wrap64 ((i : Int) + 1) = ((i + 1 : Nat) : Int) := by rw [M.w64 (by omega) (by omega)]; omega
    refine M.Ev_succ ?_
    simp only [laws_eqIntS.l0, show (i : Int) < (l.length : Int) by omega, show (0 : Int) ≤ (i : Int) by omega, if_true, e]
    exact ih (i + 1) (by omega) (by omega)
theorem eqIntS_ev (l : List Int) (hl : l.length ≤ 1000000000000) : Ev (fun k => laws_eqIntS.f k l l) true := by
  unfold laws_eqIntS.f
  simp only [if_true]
  exact eqIntS_loop l hl l.length 0 (by omega) (by omega)
theorem markIntS_loop (n : Nat) (hn : n ≤ 1000000000000) (m : Int) (hm : 0 ≤ m) (hm2 : m ≤ 1000000000000) : ∀ (d i : Nat) (acc : List Int), i ≤ n → n - i = d → acc.length = n → acc.take i = (M.runI m n).take i →
    Ev (fun k => laws_markIntS.l0 k acc (m + (i : Int)) (i : Int)) (m + (n : Int), M.runI m n) := by
  intro d
  induction d with
  | zero =>
    intro i acc hi hd ha ht
    obtain rfl : i = n := by omega
    refine M.Ev_succ (M.Ev_some fun k => ?_)
    simp only [laws_markIntS.l0]
    rw [if_neg (by omega), M.take_all ha (M.runI_length _ _) ht]
  | succ d ih =>
    intro i acc hi hd ha ht
    have e : wrap64 ((i : Int) + 1) = ((i + 1 : Nat) : Int) := by rw [M.w64 (by omega) (by omega)]; omega
    have e2 : wrap64 (m + (i : Int) + 1) = m + ((i + 1 : Nat) : Int) := by rw [M.w64 (by omega) (by omega)]; omega
    refine M.Ev_succ ?_
    simp only [laws_markIntS.l0, show (i : Int) < (acc.length : Int) by omega, show (0 : Int) ≤ (i : Int) by omega, if_true, e, e2, Int.toNat_natCast]
    refine ih (i + 1) _ (by omega) (by omega) (by rw [List.length_set]; exact ha) ?_
    exact M.take_set_succ (by omega) (by rw [M.runI_length]; omega) ht (by rw [M.runI_get])
theorem markIntS_ev (l : List Int) (hl : l.length ≤ 1000000000000) (m : Int) (hm : 0 ≤ m) (hm2 : m ≤ 1000000000000) : Ev (fun k => laws_markIntS.f k l m) (m + (l.length : Int), M.runI m l.length) := by
  unfold laws_markIntS.f
  have := markIntS_loop l.length hl m hm hm2 l.length 0 l (by omega) (by omega) rfl (by simp)
  simpa using this
theorem heldIntS_loop (n : Nat) (hn : n ≤ 1000000000000) (m : Int) (hm : 0 ≤ m) (hm2 : m ≤ 1000000000000) : ∀ (d i : Nat), i ≤ n → n - i = d → Ev (fun k => laws_heldIntS.l0 k (M.runI m n) (m + (i : Int)) (i : Int)) (m + (n : Int)) := by
  intro d
  induction d with
  | zero =>
    intro i hi hd
    obtain rfl : i = n := by omega
    refine M.Ev_succ (M.Ev_some fun k => ?_)
    simp only [laws_heldIntS.l0]
    rw [if_neg (by rw [M.runI_length]; omega)]
  | succ d ih =>
    intro i hi hd
    have e : wrap64 ((i : Int) + 1) = ((i + 1 : Nat) : Int) := by rw [M.w64 (by omega) (by omega)]; omega
    have e2 : wrap64 (m + (i : Int) + 1) = m + ((i + 1 : Nat) : Int) := by rw [M.w64 (by omega) (by omega)]; omega
    have hr : rd (M.runI m n) (i : Int) = m + (i : Int) := by rw [M.rd_get (by rw [M.runI_length]; omega), M.runI_get]
    refine M.Ev_succ ?_
    simp only [laws_heldIntS.l0, show (i : Int) < ((M.runI m n).length : Int) by rw [M.runI_length]; omega, show (0 : Int) ≤ (i : Int) by omega, if_true, hr, e, e2]
    exact ih (i + 1) (by omega) (by omega)
theorem heldIntS_ev (n : Nat) (hn : n ≤ 1000000000000) (m : Int) (hm : 0 ≤ m) (hm2 : m ≤ 1000000000000) : Ev (fun k => laws_heldIntS.f k (M.runI m n) m) (m + (n : Int)) := by
  unfold laws_heldIntS.f
  have := heldIntS_loop n hn m hm hm2 n 0 (by omega) (by omega)
  simpa using this
/-- What marking leaves of rows of these lengths. -/
def runS (m : Int) : List Nat → List (List Int)
  | [] => []
  | n :: ns => M.runI m n :: runS (m + (n : Int)) ns
def totS : List Nat → Int
  | [] => 0
  | n :: ns => (n : Int) + totS ns
theorem totS_bd {l : List (List Int)} (h : ∀ r ∈ l, r.length ≤ 2) : 0 ≤ totS (l.map List.length) ∧ totS (l.map List.length) ≤ 2 * (l.length : Int) := by
  induction l with
  | nil => simp [totS]
  | cons r l ih =>
    have h1 := h r (by simp)
    have h2 := ih (fun x hx => h x (by simp [hx]))
    simp only [List.map_cons, totS, List.length_cons]
    omega
theorem rdL_get {l : List (List Int)} {i : Nat} (h : i < l.length) : rd_L1 l (i : Int) = l[i] := by
  unfold rd_L1
  rw [Int.toNat_natCast, List.getD_eq_getElem?_getD, List.getElem?_eq_getElem h]; rfl
theorem eqIntSS_loop (l : List (List Int)) (hl : l.length ≤ 1000000000000) (hr : ∀ r ∈ l, r.length ≤ 2) : ∀ (d i : Nat), i ≤ l.length → l.length - i = d → Ev (fun k => laws_eqIntSS.l0 k l l (i : Int)) true := by
  intro d
  induction d with
  | zero =>
    intro i hi hd
    refine M.Ev_succ (M.Ev_some fun k => ?_)
    simp only [laws_eqIntSS.l0]
    rw [if_neg (by omega)]
  | succ d ih =>
    intro i hi hd
    have e : wrap64 ((i : Int) + 1) = ((i + 1 : Nat) : Int) := by rw [M.w64 (by omega) (by omega)]; omega
    have hil : i < l.length := by omega
    have h2 := hr _ (List.getElem_mem hil)
    refine M.Ev_succ ?_
    simp only [laws_eqIntSS.l0, show (i : Int) < (l.length : Int) by omega, show (0 : Int) ≤ (i : Int) by omega, if_true, rdL_get hil, e]
    refine Ev.bind (eqIntS_ev l[i] (by omega)) ?_
    simp only [if_true]
    exact ih (i + 1) (by omega) (by omega)
theorem eqIntSS_ev (l : List (List Int)) (hl : l.length ≤ 1000000000000) (hr : ∀ r ∈ l, r.length ≤ 2) : Ev (fun k => laws_eqIntSS.f k l l) true := by
  unfold laws_eqIntSS.f
  simp only [if_true]
  exact eqIntSS_loop l hl hr l.length 0 (by omega) (by omega)
theorem markIntSS_loop : ∀ (rest pre : List (List Int)) (m : Int), (∀ r ∈ rest, r.length ≤ 2) → pre.length + rest.length ≤ 1000000000 → 0 ≤ m → m + 2 * (rest.length : Int) ≤ 1000000000000 →
    Ev (fun k => laws_markIntSS.l0 k (pre ++ rest) m (pre.length : Int)) (m + totS (rest.map List.length), pre ++ runS m (rest.map List.length)) := by
  intro rest
  induction rest with
  | nil =>
    intro pre m _ hl h0 h1
    refine M.Ev_succ (M.Ev_some fun k => ?_)
    simp [laws_markIntSS.l0, totS, runS]
  | cons r rest ih =>
    intro pre m hr hl h0 h1
    simp only [List.length_cons] at hl h1
    have h2 := hr r (by simp)
    have e : wrap64 ((pre.length : Int) + 1) = ((pre ++ [M.runI m r.length]).length : Int) := by rw [M.w64 (by omega) (by omega)]; simp
    have hg : (pre ++ r :: rest).getD pre.length [] = r := by simp [List.getD_eq_getElem?_getD]
    have hs : ∀ x : List Int, (pre ++ r :: rest).set pre.length x = (pre ++ [x]) ++ rest := fun x => by simp
    have hm := markIntS_ev r (by omega) m h0 (by omega)
    refine M.Ev_succ ?_
    simp only [laws_markIntSS.l0, show (pre.length : Int) < ((pre ++ r :: rest).length : Int) by simp; omega, show (0 : Int) ≤ (pre.length : Int) by omega, if_true, Int.toNat_natCast, hg, e]
    refine Ev.bind hm ?_
    simp only [hs]
    have := ih (pre ++ [M.runI m r.length]) (m + (r.length : Int)) (fun x hx => hr x (by simp [hx])) (by simp; omega) (by omega) (by omega)
    simp only [List.map_cons, totS, runS]
    rw [← Int.add_assoc, show pre ++ M.runI m r.length :: runS (m + (r.length : Int)) (rest.map List.length) = (pre ++ [M.runI m r.length]) ++ runS (m + (r.length : Int)) (rest.map List.length) by simp]
    exact this
theorem markIntSS_ev (l : List (List Int)) (hl : l.length ≤ 1000000) (hr : ∀ r ∈ l, r.length ≤ 2) : Ev (fun k => laws_markIntSS.f k l 1) (1 + totS (l.map List.length), runS 1 (l.map List.length)) := by
  unfold laws_markIntSS.f
  exact markIntSS_loop l [] 1 hr (by simp; omega) (by omega) (by omega)
theorem heldIntSS_loop : ∀ (rest : List (List Int)) (pre : List (List Int)) (m : Int), (∀ r ∈ rest, r.length ≤ 2) → pre.length + rest.length ≤ 1000000000 → 0 ≤ m → m + 2 * (rest.length : Int) ≤ 1000000000000 →
    Ev (fun k => laws_heldIntSS.l0 k (pre ++ runS m (rest.map List.length)) m (pre.length : Int)) (m + totS (rest.map List.length)) := by
  intro rest
  induction rest with
  | nil =>
    intro pre m _ hl h0 h1
    refine M.Ev_succ (M.Ev_some fun k => ?_)
    simp [laws_heldIntSS.l0, totS, runS]
  | cons r rest ih =>
    intro pre m hr hl h0 h1
    simp only [List.length_cons] at hl h1
    have h2 := hr r (by simp)
    have e : wrap64 ((pre.length : Int) + 1) = ((pre ++ [M.runI m r.length]).length : Int) := by rw [M.w64 (by omega) (by omega)]; simp
    simp only [List.map_cons, totS, runS]
    have hil : pre.length < (pre ++ M.runI m r.length :: runS (m + (r.length : Int)) (rest.map List.length)).length := by simp
    have hg : rd_L1 (pre ++ M.runI m r.length :: runS (m + (r.length : Int)) (rest.map List.length)) (pre.length : Int) = M.runI m r.length := by rw [rdL_get hil]; simp
    refine M.Ev_succ ?_
    simp only [laws_heldIntSS.l0, show (pre.length : Int) < ((pre ++ M.runI m r.length :: runS (m + (r.length : Int)) (rest.map List.length)).length : Int) by omega, show (0 : Int) ≤ (pre.length : Int) by omega, if_true, hg, e]
    refine Ev.bind (heldIntS_ev r.length (by omega) m h0 (by omega)) ?_
    simp only [show ¬ (m + (r.length : Int) < 0) by omega, if_false]
    have := ih (pre ++ [M.runI m r.length]) (m + (r.length : Int)) (fun x hx => hr x (by simp [hx])) (by simp; omega) (by omega) (by omega)
    rw [← Int.add_assoc, show pre ++ M.runI m r.length :: runS (m + (r.length : Int)) (rest.map List.length) = (pre ++ [M.runI m r.length]) ++ runS (m + (r.length : Int)) (rest.map List.length) by simp]
    exact this
theorem heldIntSS_ev (l : List (List Int)) (hl : l.length ≤ 1000000) (hr : ∀ r ∈ l, r.length ≤ 2) : Ev (fun k => laws_heldIntSS.f k (runS 1 (l.map List.length)) 1) (1 + totS (l.map List.length)) := by
  unfold laws_heldIntSS.f
  exact heldIntSS_loop l [] 1 hr (by simp; omega) (by omega) (by omega)
def laws_FnExactRangesWithSum.Pure : Prop := ∀ (a0 : Int), (Lit.int .i64 a0).wf = true → ∃ k, laws_FnExactRangesWithSum.f k a0 = some true
theorem FnExactRangesWithSum : laws_FnExactRangesWithSum.Pure := by
  intro a _
  obtain ⟨h1, h2⟩ := Ranges_ev a
  have hl := rangesR_len a
  have hr : ∀ r ∈ (rangesR a).1, r.length ≤ 2 := fun r h => by rw [rangesR_rows a r h]; exact Nat.le_refl _
  generalize rangesR a = r at h1 h2 hl hr
  refine Ev.rounds (r := true) ?_
  unfold laws_FnExactRangesWithSum.f
  refine Ev.bind h1 (Ev.bind h2 ?_)
  simp only [if_true]
  refine Ev.bind (eqIntSS_ev r.1 (by omega) hr) ?_
  simp only [if_true]
  refine Ev.bind (markIntSS_ev r.1 (by omega) hr) (Ev.bind (heldIntSS_ev r.1 (by omega) hr) (M.Ev_some fun k => ?_))
  have := totS_bd hr
  rw [if_pos ⟨by omega, rfl⟩]

end Go.Proofs.Ytfoefaniefmgoaa.Pure
