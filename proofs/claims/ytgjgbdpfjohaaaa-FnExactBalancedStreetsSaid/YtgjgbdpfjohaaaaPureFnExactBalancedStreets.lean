/- The program's BalancedStreets and the reference's answer the same for all numbers, and the result shares no memory: no further condition. -/
import Derived.Test.YtgjgbdpfjohaaaaM
import Derived.Test.YtgjgbdpfjohaaaaPFnExactBalancedStreetsx2
namespace Go.Proofs.Ytgjgbdpfjohaaaa.Pure
open Go.RowKit Go.Proofs.Ytgjgbdpfjohaaaa.PFnExactBalancedStreets Go.Proofs.YtgjgbdpfjohaaaaW.PrintWords Go.Proofs.YtgjgbdpfjohaaaaW.PrintLast Go.Proofs.YtgjgbdpfjohaaaaW.PrintMore
set_option linter.unusedVariables false
set_option linter.unusedSimpArgs false
theorem spec_l1In_eq (a b c : Int) : spec_l1In.f a b c = some (decide (b ≤ a ∧ a ≤ c)) := by
  unfold spec_l1In.f
  by_cases h : a ≥ b
  · rw [if_pos h]; simp [show b ≤ a from h]
  · rw [if_neg h]; simp [show ¬ b ≤ a from h]
theorem impl_within_eq (a b c : Int) : impl_within.f a b c = some (decide (b ≤ a ∧ a ≤ c)) := by
  unfold impl_within.f
  by_cases h : a ≥ b
  · rw [if_pos h]; simp [show b ≤ a from h]
  · rw [if_neg h]; simp [show ¬ b ≤ a from h]
theorem spec_nuMost_eq (a : Int) : spec_nuMost.f a = some (decide (1 ≤ a ∧ a ≤ 1000000)) := by
  unfold spec_nuMost.f; rw [spec_l1In_eq]; rfl
theorem impl_isMost_eq (a : Int) : impl_isMost.f a = some (decide (1 ≤ a ∧ a ≤ 1000000)) := by
  unfold impl_isMost.f; rw [impl_within_eq]; rfl
theorem balStop (s lo : Nat) (hlo : lo ≤ 1000000) : Ev (fun k => spec_nuBalanced.l0 k (s : Int) (lo : Int) (lo : Int)) ((lo : Int), decide (lo * lo = s)) := by
  have hq := Nat.mul_le_mul hlo hlo
  obtain ⟨q, hqe⟩ : ∃ q, lo * lo = q := ⟨_, rfl⟩
  have e : wrap64 ((lo : Int) * (lo : Int)) = (q : Int) := by
    rw [← Int.natCast_mul, hqe]
    rw [hqe] at hq
    exact M.w64 (by omega) (by omega)
  rw [hqe]
  refine M.Ev_succ (M.Ev_some fun k => ?_)
  simp only [spec_nuBalanced.l0, Int.lt_irrefl, if_false, e]
  congr 2
  rw [Bool.eq_iff_iff]
  simp only [beq_iff_eq, decide_eq_true_eq]
  omega
theorem balStep (s lo hi md : Nat) (hmd : (lo + hi) / 2 = md) (c : lo < hi) (h2 : hi ≤ 1000000) : wrap64 (Int.tdiv (wrap64 ((lo : Int) + (hi : Int))) 2) = (md : Int) ∧ wrap64 ((md : Int) * (md : Int)) = ((md * md : Nat) : Int) ∧ wrap64 ((md : Int) + 1) = ((md + 1 : Nat) : Int) := by
  have hm : md ≤ 1000000 := by omega
  have hq := Nat.mul_le_mul hm hm
  refine ⟨?_, ?_, ?_⟩
  · rw [M.w64 (x := (lo : Int) + (hi : Int)) (by omega) (by omega), M.tdiv_pos (by omega), M.w64 (by omega) (by omega)]; omega
  · rw [← Int.natCast_mul]
    generalize md * md = q at hq
    exact M.w64 (by omega) (by omega)
  · rw [M.w64 (by omega) (by omega)]; omega
theorem balLoop (s : Nat) : ∀ (d lo hi : Nat), hi - (lo + 1) ≤ d → lo + 1 ≤ hi → hi ≤ 1000000 → s ≤ hi * hi → lo * lo < s →
    ∃ L : Nat, L + 1 ≤ 1000000 ∧ s ≤ (L + 1) * (L + 1) ∧ L * L < s ∧ Ev (fun k => spec_nuBalanced.l0 k (s : Int) ((lo + 1 : Nat) : Int) (hi : Int)) (((L + 1 : Nat) : Int), decide ((L + 1) * (L + 1) = s)) := by
  intro d
  induction d with
  | zero =>
    intro lo hi hd hle h2 h3 h4
    obtain rfl : lo + 1 = hi := by omega
    exact ⟨lo, h2, h3, h4, balStop s (lo + 1) h2⟩
  | succ d ih =>
    intro lo hi hd hle h2 h3 h4
    by_cases c : lo + 1 < hi
    · obtain ⟨md, hmd⟩ : ∃ md, (lo + 1 + hi) / 2 = md := ⟨_, rfl⟩
      have a1 : hi - (md + 1) ≤ d := by omega
      have a2 : md + 1 ≤ hi := by omega
      have a3 : md - (lo + 1) ≤ d := by omega
      have a4 : lo + 1 ≤ md := by omega
      have a5 : md ≤ 1000000 := by omega
      have a6 : ((lo + 1 : Nat) : Int) < (hi : Int) := by omega
      obtain ⟨em, eq, e1⟩ := balStep s (lo + 1) hi md hmd c h2
      by_cases cr : md * md < s
      · obtain ⟨L, b, c', d', e'⟩ := ih md hi a1 a2 h2 h3 cr
        refine ⟨L, b, c', d', M.Ev_succ ?_⟩
        have cr' : ((md * md : Nat) : Int) < (s : Int) := by exact_mod_cast cr
        simp only [spec_nuBalanced.l0, a6, if_true, em, eq, cr', e1]
        exact e'
      · obtain ⟨L, b, c', d', e'⟩ := ih lo md a3 a4 a5 (Nat.le_of_not_lt cr) h4
        refine ⟨L, b, c', d', M.Ev_succ ?_⟩
        have cr' : ¬ (((md * md : Nat) : Int) < (s : Int)) := by exact_mod_cast cr
        simp only [spec_nuBalanced.l0, a6, if_true, em, eq, cr', if_false]
        exact e'
    · obtain rfl : lo + 1 = hi := by omega
      exact ⟨lo, h2, h3, h4, balStop s (lo + 1) h2⟩
theorem sq_succ (L : Nat) : (L + 1) * (L + 1) = L * L + 2 * L + 1 := by rw [Nat.add_mul, Nat.mul_add]; omega
/-- The reference's search finds the house that the program finds, and tells where there is none. -/
theorem balanced_ev (m : Nat) (h1 : 1 ≤ m) (h2 : m ≤ 1000000) : ∃ r : Int × Bool, Ev (fun k => spec_nuBalanced.f k (m : Int)) r ∧ r.2 = decide (0 < impl_balancedHouse.bal m) ∧ (r.2 = true → r.1 = (impl_balancedHouse.bal m : Nat)) := by
  have hp := Nat.mul_le_mul h2 (show m + 1 ≤ 1000001 by omega)
  have hmm := Nat.mul_le_mul h1 (Nat.le_refl m)
  obtain ⟨p, hpe⟩ : ∃ p : Nat, m * (m + 1) = p := ⟨_, rfl⟩
  have e0 : (m : Int) * ((m : Int) + 1) = (p : Int) := by rw [← hpe]; simp
  have hpm : p = m * m + m := by rw [← hpe, Nat.mul_add, Nat.mul_one]
  have hp2 := Nat.mul_le_mul h1 (show 2 ≤ m + 1 by omega)
  rw [hpe] at hp hp2
  obtain ⟨L, l2, l3, l4, l5⟩ := balLoop (p / 2) m 0 m (by omega) (by omega) h2 (by omega) (by omega)
  refine ⟨(((L + 1 : Nat) : Int), decide ((L + 1) * (L + 1) = p / 2)), ?_, ?_⟩
  · unfold spec_nuBalanced.f
    have e1 : wrap64 (Int.tdiv (wrap64 ((m : Int) * wrap64 ((m : Int) + 1))) 2) = ((p / 2 : Nat) : Int) := by
      rw [M.w64 (x := (m : Int) + 1) (by omega) (by omega), e0, M.w64 (x := (p : Int)) (by omega) (by omega), M.tdiv_pos (by omega), M.w64 (by omega) (by omega)]; omega
    rw [e1]
    exact l5
  · unfold impl_balancedHouse.bal
    rw [hpe]
    obtain ⟨g1, g2⟩ := impl_balancedHouse.root_is (p / 2)
    have k1 := sq_succ L
    have k2 := sq_succ (L + 1)
    by_cases c : (L + 1) * (L + 1) = p / 2
    · have hr : impl_balancedHouse.root (p / 2) = L + 1 := impl_balancedHouse.root_eq (by omega) (by omega)
      simp only [hr, c, if_true, decide_true]
      exact ⟨by simp, by simp⟩
    · have hr : ¬ impl_balancedHouse.root (p / 2) * impl_balancedHouse.root (p / 2) = p / 2 := by
        intro z
        apply c
        generalize impl_balancedHouse.root (p / 2) = r at z g1 g2
        have hrl : r = L + 1 := by
          rcases Nat.lt_trichotomy r (L + 1) with h | h | h
          · have := Nat.mul_le_mul (show r ≤ L by omega) (show r ≤ L by omega)
            omega
          · exact h
          · have := Nat.mul_le_mul (show L + 1 + 1 ≤ r from h) (show L + 1 + 1 ≤ r from h)
            omega
        rw [← hrl]; exact z
      simp only [hr, c, if_false, decide_false]
      exact ⟨by simp, fun h => by simp at h⟩
def itemB (n : Nat) : List (List Int) := if 0 < impl_balancedHouse.bal n then [[(n : Int), ((impl_balancedHouse.bal n : Nat) : Int)]] else []
def accB : Nat → List (List Int)
  | 0 => []
  | n + 1 => accB n ++ itemB (n + 1)
theorem itemB_len (n : Nat) : (itemB n).length ≤ 1 := by unfold itemB; split <;> simp
theorem accB_len : ∀ n, (accB n).length ≤ n
  | 0 => by simp [accB]
  | n + 1 => by have := accB_len n; have := itemB_len (n + 1); simp only [accB, List.length_append]; omega
theorem accB_rows : ∀ n, ∀ r ∈ accB n, r.length = 2
  | 0 => by simp [accB]
  | n + 1 => by
    intro r hr
    simp only [accB, List.mem_append] at hr
    rcases hr with h | h
    · exact accB_rows n r h
    · unfold itemB at h
      split at h
      · rw [List.mem_singleton.1 h]; rfl
      · simp at h
theorem bal_f (n : Nat) (h1 : 1 ≤ n) (h2 : n ≤ 1000000) : impl_balancedHouse.f (n : Int) = some ((impl_balancedHouse.bal n : Nat) : Int) := by
  unfold impl_balancedHouse.f
  rw [if_pos ⟨by omega, by omega⟩, Int.toNat_natCast]
theorem streets_loops (m : Nat) (hm : m ≤ 1000000) : ∀ (d i : Nat), i ≤ m → m - i = d → Ev (fun k => spec_BalancedStreets.l0 k (m : Int) (accB i) ((i + 1 : Nat) : Int)) (accB m, true) ∧ Ev (fun k => impl_BalancedStreets.l0 k (m : Int) (accB i) ((i + 1 : Nat) : Int)) (accB m, true) := by
  intro d
  induction d with
  | zero =>
    intro i hi hd
    have e : i = m := by omega
    subst e
    refine ⟨M.Ev_succ (M.Ev_some fun k => ?_), M.Ev_succ (M.Ev_some fun k => ?_)⟩
    · simp only [spec_BalancedStreets.l0]; rw [if_neg (by omega)]
    · simp only [impl_BalancedStreets.l0]; rw [if_neg (by omega)]
  | succ d ih =>
    intro i hi hd
    obtain ⟨g1, g2⟩ := ih (i + 1) (by omega) (by omega)
    have e1 : wrap64 (((i + 1 : Nat) : Int) + 1) = ((i + 1 + 1 : Nat) : Int) := by rw [M.w64 (by omega) (by omega)]; omega
    have hl := accB_len i
    obtain ⟨⟨x, b⟩, h1, h2, h3⟩ := balanced_ev (i + 1) (by omega) (by omega)
    have hf := bal_f (i + 1) (by omega) (by omega)
    have c0 : ((i + 1 : Nat) : Int) ≤ (m : Int) := by omega
    have c1 : (accB i).length < 5864062014805 := by omega
    simp only at h2 h3
    by_cases c : 0 < impl_balancedHouse.bal (i + 1)
    · have hb : b = true := by rw [h2]; simp [c]
      subst hb
      have hx := h3 rfl
      have hi2 : itemB (i + 1) = [[((i + 1 : Nat) : Int), ((impl_balancedHouse.bal (i + 1) : Nat) : Int)]] := by unfold itemB; rw [if_pos c]
      rw [accB, hi2] at g1 g2
      refine ⟨M.Ev_succ ?_, M.Ev_succ ?_⟩
      · simp only [spec_BalancedStreets.l0, c0, if_true, e1]
        refine Ev.bind h1 ?_
        simp only [if_true, c1, hx]
        exact g1
      · simp only [impl_BalancedStreets.l0, c0, if_true, e1, hf, Option.bind_some, show ((impl_balancedHouse.bal (i + 1) : Nat) : Int) > 0 by omega, c1]
        exact g2
    · have hb : b = false := by rw [h2]; simp [c]
      subst hb
      have hi2 : itemB (i + 1) = [] := by unfold itemB; rw [if_neg c]
      rw [accB, hi2, List.append_nil] at g1 g2
      refine ⟨M.Ev_succ ?_, M.Ev_succ ?_⟩
      · simp only [spec_BalancedStreets.l0, c0, if_true, e1]
        refine Ev.bind h1 ?_
        simp only [Bool.false_eq_true, if_false]
        exact g1
      · simp only [impl_BalancedStreets.l0, c0, if_true, e1, hf, Option.bind_some, show ¬ (((impl_balancedHouse.bal (i + 1) : Nat) : Int) > 0) by omega, if_false]
        exact g2
def streetsR (a : Int) : List (List Int) × Bool := if 1 ≤ a ∧ a ≤ 1000000 then (accB a.toNat, true) else ([], false)
theorem streetsR_len (a : Int) : (streetsR a).1.length ≤ 1000000 := by
  unfold streetsR
  split
  · have := accB_len a.toNat
    show (accB a.toNat).length ≤ _
    omega
  · simp
theorem streetsR_rows (a : Int) : ∀ r ∈ (streetsR a).1, r.length = 2 := by
  unfold streetsR
  split
  · exact accB_rows _
  · simp
theorem Streets_ev (a : Int) : Ev (fun k => spec_BalancedStreets.f k a) (streetsR a) ∧ Ev (fun k => impl_BalancedStreets.f k a) (streetsR a) := by
  unfold spec_BalancedStreets.f impl_BalancedStreets.f streetsR
  simp only [spec_nuMost_eq, impl_isMost_eq, Option.bind_some]
  by_cases c : 1 ≤ a ∧ a ≤ 1000000
  · obtain ⟨s, rfl⟩ : ∃ s : Nat, a = (s : Int) := ⟨a.toNat, by omega⟩
    simp only [c, and_self, decide_true, if_true, Int.toNat_natCast]
    exact streets_loops s (by omega) s 0 (by omega) (by omega)
  · simp only [c, decide_false, Bool.false_eq_true, if_false]
    exact ⟨M.Ev_some fun k => rfl, M.Ev_some fun k => rfl⟩
theorem eqIntS_loop (l : List Int) (hl : l.length ≤ 1000000000000) : ∀ (d i : Nat), i ≤ l.length → l.length - i = d → Ev (fun k => laws_eqIntS.l0 k l l (i : Int)) true := by
  intro d
  induction d with
  | zero =>
    intro i hi hd
    refine M.Ev_succ (M.Ev_some fun k => ?_)
    simp only [laws_eqIntS.l0]
    rw [if_neg (by omega)]
  | succ d ih =>
    intro i hi hd
    have e : wrap64 ((i : Int) + 1) = ((i + 1 : Nat) : Int) := by rw [M.w64 (by omega) (by omega)]; omega
    refine M.Ev_succ ?_
    simp only [laws_eqIntS.l0, show (i : Int) < (l.length : Int) by omega, show (0 : Int) ≤ (i : Int) by omega, if_true, e]
    exact ih (i + 1) (by omega) (by omega)
theorem eqIntS_ev (l : List Int) (hl : l.length ≤ 1000000000000) : Ev (fun k => laws_eqIntS.f k l l) true := by
  unfold laws_eqIntS.f
  simp only [if_true]
  exact eqIntS_loop l hl l.length 0 (by omega) (by omega)
theorem markIntS_loop (n : Nat) (hn : n ≤ 1000000000000) (m : Int) (hm : 0 ≤ m) (hm2 : m ≤ 1000000000000) : ∀ (d i : Nat) (acc : List Int), i ≤ n → n - i = d → acc.length = n → acc.take i = (M.runI m n).take i →
    Ev (fun k => laws_markIntS.l0 k acc (m + (i : Int)) (i : Int)) (m + (n : Int), M.runI m n) := by
  intro d
  induction d with
  | zero =>
    intro i acc hi hd ha ht
    obtain rfl : i = n := by omega
    refine M.Ev_succ (M.Ev_some fun k => ?_)
    simp only [laws_markIntS.l0]
    rw [if_neg (by omega), M.take_all ha (M.runI_length _ _) ht]
  | succ d ih =>
    intro i acc hi hd ha ht
    have e : wrap64 ((i : Int) + 1) = ((i + 1 : Nat) : Int) := by rw [M.w64 (by omega) (by omega)]; omega
    have e2 : wrap64 (m + (i : Int) + 1) = m + ((i + 1 : Nat) : Int) := by rw [M.w64 (by omega) (by omega)]; omega
    refine M.Ev_succ ?_
    simp only [laws_markIntS.l0, show (i : Int) < (acc.length : Int) by omega, show (0 : Int) ≤ (i : Int) by omega, if_true, e, e2, Int.toNat_natCast]
    refine ih (i + 1) _ (by omega) (by omega) (by rw [List.length_set]; exact ha) ?_
    exact M.take_set_succ (by omega) (by rw [M.runI_length]; omega) ht (by rw [M.runI_get])
theorem markIntS_ev (l : List Int) (hl : l.length ≤ 1000000000000) (m : Int) (hm : 0 ≤ m) (hm2 : m ≤ 1000000000000) : Ev (fun k => laws_markIntS.f k l m) (m + (l.length : Int), M.runI m l.length) := by
  unfold laws_markIntS.f
  have := markIntS_loop l.length hl m hm hm2 l.length 0 l (by omega) (by omega) rfl (by simp)
  simpa using this
theorem heldIntS_loop (n : Nat) (hn : n ≤ 1000000000000) (m : Int) (hm : 0 ≤ m) (hm2 : m ≤ 1000000000000) : ∀ (d i : Nat), i ≤ n → n - i = d → Ev (fun k => laws_heldIntS.l0 k (M.runI m n) (m + (i : Int)) (i : Int)) (m + (n : Int)) := by
  intro d
  induction d with
  | zero =>
    intro i hi hd
    obtain rfl : i = n := by omega
    refine M.Ev_succ (M.Ev_some fun k => ?_)
    simp only [laws_heldIntS.l0]
    rw [if_neg (by rw [M.runI_length]; omega)]
  | succ d ih =>
    intro i hi hd
    have e : wrap64 ((i : Int) + 1) = ((i + 1 : Nat) : Int) := by rw [M.w64 (by omega) (by omega)]; omega
    have e2 : wrap64 (m + (i : Int) + 1) = m + ((i + 1 : Nat) : Int) := by rw [M.w64 (by omega) (by omega)]; omega
    have hr : rd (M.runI m n) (i : Int) = m + (i : Int) := by rw [M.rd_get (by rw [M.runI_length]; omega), M.runI_get]
    refine M.Ev_succ ?_
    simp only [laws_heldIntS.l0, show (i : Int) < ((M.runI m n).length : Int) by rw [M.runI_length]; omega, show (0 : Int) ≤ (i : Int) by omega, if_true, hr, e, e2]
    exact ih (i + 1) (by omega) (by omega)
theorem heldIntS_ev (n : Nat) (hn : n ≤ 1000000000000) (m : Int) (hm : 0 ≤ m) (hm2 : m ≤ 1000000000000) : Ev (fun k => laws_heldIntS.f k (M.runI m n) m) (m + (n : Int)) := by
  unfold laws_heldIntS.f
  have := heldIntS_loop n hn m hm hm2 n 0 (by omega) (by omega)
  simpa using this
/-- What marking leaves of rows of these lengths. -/
def runS (m : Int) : List Nat → List (List Int)
  | [] => []
  | n :: ns => M.runI m n :: runS (m + (n : Int)) ns
def totS : List Nat → Int
  | [] => 0
  | n :: ns => (n : Int) + totS ns
theorem totS_bd {l : List (List Int)} (h : ∀ r ∈ l, r.length ≤ 2) : 0 ≤ totS (l.map List.length) ∧ totS (l.map List.length) ≤ 2 * (l.length : Int) := by
  induction l with
  | nil => simp [totS]
  | cons r l ih =>
    have h1 := h r (by simp)
    have h2 := ih (fun x hx => h x (by simp [hx]))
    simp only [List.map_cons, totS, List.length_cons]
    omega
theorem rdL_get {l : List (List Int)} {i : Nat} (h : i < l.length) : rd_L1 l (i : Int) = l[i] := by
  unfold rd_L1
  rw [Int.toNat_natCast, List.getD_eq_getElem?_getD, List.getElem?_eq_getElem h]; rfl
theorem eqIntSS_loop (l : List (List Int)) (hl : l.length ≤ 1000000000000) (hr : ∀ r ∈ l, r.length ≤ 2) : ∀ (d i : Nat), i ≤ l.length → l.length - i = d → Ev (fun k => laws_eqIntSS.l0 k l l (i : Int)) true := by
  intro d
  induction d with
  | zero =>
    intro i hi hd
    refine M.Ev_succ (M.Ev_some fun k => ?_)
    simp only [laws_eqIntSS.l0]
    rw [if_neg (by omega)]
  | succ d ih =>
    intro i hi hd
    have e : wrap64 ((i : Int) + 1) = ((i + 1 : Nat) : Int) := by rw [M.w64 (by omega) (by omega)]; omega
    have hil : i < l.length := by omega
    have h2 := hr _ (List.getElem_mem hil)
    refine M.Ev_succ ?_
    simp only [laws_eqIntSS.l0, show (i : Int) < (l.length : Int) by omega, show (0 : Int) ≤ (i : Int) by omega, if_true, rdL_get hil, e]
    refine Ev.bind (eqIntS_ev l[i] (by omega)) ?_
    simp only [if_true]
    exact ih (i + 1) (by omega) (by omega)
theorem eqIntSS_ev (l : List (List Int)) (hl : l.length ≤ 1000000000000) (hr : ∀ r ∈ l, r.length ≤ 2) : Ev (fun k => laws_eqIntSS.f k l l) true := by
  unfold laws_eqIntSS.f
  simp only [if_true]
  exact eqIntSS_loop l hl hr l.length 0 (by omega) (by omega)
theorem markIntSS_loop : ∀ (rest pre : List (List Int)) (m : Int), (∀ r ∈ rest, r.length ≤ 2) → pre.length + rest.length ≤ 1000000000 → 0 ≤ m → m + 2 * (rest.length : Int) ≤ 1000000000000 →
    Ev (fun k => laws_markIntSS.l0 k (pre ++ rest) m (pre.length : Int)) (m + totS (rest.map List.length), pre ++ runS m (rest.map List.length)) := by
  intro rest
  induction rest with
  | nil =>
    intro pre m _ hl h0 h1
    refine M.Ev_succ (M.Ev_some fun k => ?_)
    simp [laws_markIntSS.l0, totS, runS]
  | cons r rest ih =>
    intro pre m hr hl h0 h1
    simp only [List.length_cons] at hl h1
    have h2 := hr r (by simp)
    have e : wrap64 ((pre.length : Int) + 1) = ((pre ++ [M.runI m r.length]).length : Int) := by rw [M.w64 (by omega) (by omega)]; simp
    have hg : (pre ++ r :: rest).getD pre.length [] = r := by simp [List.getD_eq_getElem?_getD]
    have hs : ∀ x : List Int, (pre ++ r :: rest).set pre.length x = (pre ++ [x]) ++ rest := fun x => by simp
    have hm := markIntS_ev r (by omega) m h0 (by omega)
    refine M.Ev_succ ?_
    simp only [laws_markIntSS.l0, show (pre.length : Int) < ((pre ++ r :: rest).length : Int) by simp; omega, show (0 : Int) ≤ (pre.length : Int) by omega, if_true, Int.toNat_natCast, hg, e]
    refine Ev.bind hm ?_
    simp only [hs]
    have := ih (pre ++ [M.runI m r.length]) (m + (r.length : Int)) (fun x hx => hr x (by simp [hx])) (by simp; omega) (by omega) (by omega)
    simp only [List.map_cons, totS, runS]
    rw [← Int.add_assoc, show pre ++ M.runI m r.length :: runS (m + (r.length : Int)) (rest.map List.length) = (pre ++ [M.runI m r.length]) ++ runS (m + (r.length : Int)) (rest.map List.length) by simp]
    exact this
theorem markIntSS_ev (l : List (List Int)) (hl : l.length ≤ 1000000) (hr : ∀ r ∈ l, r.length ≤ 2) : Ev (fun k => laws_markIntSS.f k l 1) (1 + totS (l.map List.length), runS 1 (l.map List.length)) := by
  unfold laws_markIntSS.f
  exact markIntSS_loop l [] 1 hr (by simp; omega) (by omega) (by omega)
theorem heldIntSS_loop : ∀ (rest : List (List Int)) (pre : List (List Int)) (m : Int), (∀ r ∈ rest, r.length ≤ 2) → pre.length + rest.length ≤ 1000000000 → 0 ≤ m → m + 2 * (rest.length : Int) ≤ 1000000000000 →
    Ev (fun k => laws_heldIntSS.l0 k (pre ++ runS m (rest.map List.length)) m (pre.length : Int)) (m + totS (rest.map List.length)) := by
  intro rest
  induction rest with
  | nil =>
    intro pre m _ hl h0 h1
    refine M.Ev_succ (M.Ev_some fun k => ?_)
    simp [laws_heldIntSS.l0, totS, runS]
  | cons r rest ih =>
    intro pre m hr hl h0 h1
    simp only [List.length_cons] at hl h1
    have h2 := hr r (by simp)
    have e : wrap64 ((pre.length : Int) + 1) = ((pre ++ [M.runI m r.length]).length : Int) := by rw [M.w64 (by omega) (by omega)]; simp
    simp only [List.map_cons, totS, runS]
    have hil : pre.length < (pre ++ M.runI m r.length :: runS (m + (r.length : Int)) (rest.map List.length)).length := by simp
    have hg : rd_L1 (pre ++ M.runI m r.length :: runS (m + (r.length : Int)) (rest.map List.length)) (pre.length : Int) = M.runI m r.length := by rw [rdL_get hil]; simp
    refine M.Ev_succ ?_
    simp only [laws_heldIntSS.l0, show (pre.length : Int) < ((pre ++ M.runI m r.length :: runS (m + (r.length : Int)) (rest.map List.length)).length : Int) by omega, show (0 : Int) ≤ (pre.length : Int) by omega, if_true, hg, e]
    refine Ev.bind (heldIntS_ev r.length (by omega) m h0 (by omega)) ?_
    simp only [show ¬ (m + (r.length : Int) < 0) by omega, if_false]
    have := ih (pre ++ [M.runI m r.length]) (m + (r.length : Int)) (fun x hx => hr x (by simp [hx])) (by simp; omega) (by omega) (by omega)
    rw [← Int.add_assoc, show pre ++ M.runI m r.length :: runS (m + (r.length : Int)) (rest.map List.length) = (pre ++ [M.runI m r.length]) ++ runS (m + (r.length : Int)) (rest.map List.length) by simp]
    exact this
theorem heldIntSS_ev (l : List (List Int)) (hl : l.length ≤ 1000000) (hr : ∀ r ∈ l, r.length ≤ 2) : Ev (fun k => laws_heldIntSS.f k (runS 1 (l.map List.length)) 1) (1 + totS (l.map List.length)) := by
  unfold laws_heldIntSS.f
  exact heldIntSS_loop l [] 1 hr (by simp; omega) (by omega) (by omega)
def laws_FnExactBalancedStreets.Pure : Prop := ∀ (a0 : Int), (Lit.int .i64 a0).wf = true → ∃ k, laws_FnExactBalancedStreets.f k a0 = some true
theorem FnExactBalancedStreets : laws_FnExactBalancedStreets.Pure := by
  intro a _
  obtain ⟨h1, h2⟩ := Streets_ev a
  have hl := streetsR_len a
  have hr : ∀ r ∈ (streetsR a).1, r.length ≤ 2 := fun r h => by rw [streetsR_rows a r h]; exact Nat.le_refl _
  generalize streetsR a = r at h1 h2 hl hr
  refine Ev.rounds (r := true) ?_
  unfold laws_FnExactBalancedStreets.f
  refine Ev.bind h1 (Ev.bind h2 ?_)
  simp only [if_true]
  refine Ev.bind (eqIntSS_ev r.1 (by omega) hr) ?_
  simp only [if_true]
  refine Ev.bind (markIntSS_ev r.1 (by omega) hr) (Ev.bind (heldIntSS_ev r.1 (by omega) hr) (M.Ev_some fun k => ?_))
  have := totS_bd hr
  rw [if_pos ⟨by omega, rfl⟩]

end Go.Proofs.Ytgjgbdpfjohaaaa.Pure
