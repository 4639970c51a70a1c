/- Plain lemmas on numbers, texts and rounds, for the pure statements of this seat. No program in sight. -/
import Derived.IntWalk
import Derived.Test.YtihmjhchiomgbaaGreatDoorWMore
namespace Go.Proofs.YtihmjhchiomgbaaGreatDoor.M
open Go.RowKit Go.Proofs.YtihmjhchiomgbaaGreatDoorW.PrintWords
set_option linter.unusedVariables false

theorem w64 {x : Int} (h0 : -9223372036854775808 ≤ x) (h1 : x ≤ 9223372036854775807) : wrap64 x = x := by
  unfold wrap64; omega
theorem tdiv_pos {a : Int} {b : Int} (h : 0 ≤ a) : Int.tdiv a b = a / b := Int.tdiv_eq_ediv_of_nonneg h
theorem tmod_pos {a : Int} {b : Int} (h : 0 ≤ a) : Int.tmod a b = a % b := Int.tmod_eq_emod_of_nonneg h

/-- The decimal digits of a number, as bytes. -/
def digs (n : Nat) : List Int := if n < 10 then [48 + (n : Int)] else digs (n / 10) ++ [48 + ((n % 10 : Nat) : Int)]
decreasing_by omega

theorem digs_small {n : Nat} (h : n < 10) : digs n = [48 + (n : Int)] := by rw [digs, if_pos h]
theorem digs_big {n : Nat} (h : ¬ n < 10) : digs n = digs (n / 10) ++ [48 + ((n % 10 : Nat) : Int)] := by rw [digs, if_neg h]
theorem digs_le : ∀ (j n : Nat), n < 10 ^ j → (digs n).length ≤ j + 1 := by
  intro j
  induction j with
  | zero =>
    intro n h
    have : n < 10 := by simp at h; omega
    rw [digs_small this]; simp
  | succ j ih =>
    intro n h
    by_cases h1 : n < 10
    · rw [digs_small h1]; simp
    · rw [digs_big h1]
      have h2 : n / 10 < 10 ^ j := by
        have : 10 ^ (j + 1) = 10 ^ j * 10 := Nat.pow_succ 10 j
        omega
      have := ih _ h2
      simp; omega
theorem digs_le20 {n : Nat} (h : n ≤ 9223372036854775807) : (digs n).length ≤ 20 := by
  have := digs_le 19 n (by have : (10 : Nat) ^ 19 = 10000000000000000000 := by decide
                           omega)
  omega
theorem digs_pos (n : Nat) : 0 < (digs n).length := by
  by_cases h : n < 10
  · rw [digs_small h]; simp
  · rw [digs_big h]; simp

theorem strOfNums_append (xs ys : List Int) : strOfNums xs ++ strOfNums ys = strOfNums (xs ++ ys) := by
  apply ByteArray.ext
  simp [strOfNums]

theorem Ev_succ {α : Type} {g : Nat → Option α} {r : α} (h : Ev (fun k => g (k + 1)) r) : Ev g r := Ev.step (fun _ => rfl) h
theorem Ev_some {α : Type} {g : Nat → Option α} {r : α} (h : ∀ k, g k = some r) : Ev g r := ⟨0, fun k _ => h k⟩

/-! ### streets and plates as the document has them -/
def streetB (k p : Int) : Bool := decide (0 ≤ k ∧ k ≤ 2) && decide (1 ≤ p ∧ p ≤ 1000)
theorem streetB_iff {k p : Int} : streetB k p = true ↔ 0 ≤ k ∧ k ≤ 2 ∧ 1 ≤ p ∧ p ≤ 1000 := by simp [streetB, and_assoc]
def houses (k p : Int) : Int := if k = 0 then p else 2 * p
def number (k p s q : Int) : Int := if k = 1 then 2 * q + 1 + s else if s = 1 then 2 * p - q else q + 1

def asked (k p n : Int) : Bool := streetB k p && decide (1 ≤ n ∧ n ≤ houses k p)
theorem asked_iff {k p n : Int} : asked k p n = true ↔ streetB k p = true ∧ 1 ≤ n ∧ n ≤ houses k p := by simp [asked]
def side (k p n : Int) : Int := if k = 1 then (n - 1) % 2 else if n > p then 1 else 0
def plot (k p n : Int) : Int := if k = 1 then (n - 1) / 2 else if n > p then 2 * p - n else n - 1
theorem asked_bd {k p n : Int} (h : asked k p n = true) : 0 ≤ k ∧ k ≤ 2 ∧ 1 ≤ p ∧ p ≤ 1000 ∧ 1 ≤ n ∧ n ≤ 2000 ∧ 0 ≤ side k p n ∧ side k p n ≤ 1 ∧ 0 ≤ plot k p n ∧ plot k p n < p ∧ (k = 0 → side k p n = 0) := by
  obtain ⟨h1, h2, h3⟩ := asked_iff.1 h
  have h4 := streetB_iff.1 h1
  unfold houses at h3
  unfold side plot
  repeat' split at h3
  all_goals (repeat' split)
  all_goals (refine ⟨?_, ?_, ?_, ?_, ?_, ?_, ?_, ?_, ?_, ?_, ?_⟩)
  all_goals omega

theorem take_set_succ {α : Type} {acc tgt : List α} {i : Nat} {v : α} (h : i < acc.length) (ht : i < tgt.length) (e : acc.take i = tgt.take i) (hv : v = tgt[i]) : (acc.set i v).take (i + 1) = tgt.take (i + 1) := by
  rw [List.take_succ_eq_append_getElem (by rw [List.length_set]; exact h), List.take_succ_eq_append_getElem ht, List.take_set, List.set_eq_of_length_le (by simp; omega), e]
  congr 1
  simp [hv]
theorem take_all {α : Type} {acc tgt : List α} {i : Nat} (h : acc.length = i) (ht : tgt.length = i) (e : acc.take i = tgt.take i) : acc = tgt := by
  rwa [List.take_of_length_le (by omega), List.take_of_length_le (by omega)] at e
theorem rd_get {l : List Int} {i : Nat} (h : i < l.length) : rd l (i : Int) = l[i] := by
  unfold rd
  rw [Int.toNat_natCast, List.getD_eq_getElem?_getD, List.getElem?_eq_getElem h]; rfl

/-- The numbers on a side, the first n of them. -/
def numsL (k p s : Int) (n : Nat) : List Int := (List.range n).map fun (j : Nat) => number k p s (j : Int)
theorem numsL_length (k p s : Int) (n : Nat) : (numsL k p s n).length = n := by simp [numsL]
theorem numsL_get (k p s : Int) (n j : Nat) (h : j < (numsL k p s n).length) : (numsL k p s n)[j] = number k p s (j : Int) := by simp [numsL]
theorem numsL_succ (k p s : Int) (n : Nat) : numsL k p s (n + 1) = numsL k p s n ++ [number k p s (n : Int)] := by
  unfold numsL; rw [List.range_succ, List.map_append]; simp
def numsR (k p s : Int) : List Int := if s = 1 ∧ k = 0 then [] else numsL k p s p.toNat
theorem number_bd {k p s q : Int} (h : streetB k p = true) (hs : 0 ≤ s ∧ s ≤ 1) (hq : 0 ≤ q ∧ q < p) : 0 ≤ number k p s q ∧ number k p s q ≤ 3000 := by
  have := streetB_iff.1 h
  unfold number
  repeat' split
  all_goals omega
theorem numsR_len {k p s : Int} (h : streetB k p = true) : (numsR k p s).length ≤ 1000 := by
  have := streetB_iff.1 h
  unfold numsR
  split
  · simp
  · rw [numsL_length]; omega
theorem numsR_bd {k p s : Int} (h : streetB k p = true) (hs : 0 ≤ s ∧ s ≤ 1) : ∀ x ∈ numsR k p s, 0 ≤ x ∧ x ≤ 3000 := by
  have hp := streetB_iff.1 h
  intro x hx
  unfold numsR at hx
  split at hx
  · simp at hx
  · obtain ⟨j, hj, rfl⟩ := List.mem_map.1 hx
    have := List.mem_range.1 hj
    exact number_bd h hs (by omega)
/-- The sum of numbers. -/
def sumL : List Int → Int
  | [] => 0
  | x :: l => x + sumL l
theorem sumL_append (l m : List Int) : sumL (l ++ m) = sumL l + sumL m := by
  induction l with
  | nil => simp [sumL]
  | cons x l ih => simp only [List.cons_append, sumL, ih]; omega
theorem sumL_take_succ {l : List Int} {i : Nat} (h : i < l.length) : sumL (l.take (i + 1)) = sumL (l.take i) + l[i] := by
  rw [List.take_succ_eq_append_getElem h, sumL_append]; simp [sumL]
theorem sumL_bd {l : List Int} (B : Int) (hB : 0 ≤ B) (h : ∀ x ∈ l, 0 ≤ x ∧ x ≤ B) : 0 ≤ sumL l ∧ sumL l ≤ B * l.length := by
  induction l with
  | nil => simp [sumL]
  | cons x l ih =>
    have h1 := h x (by simp)
    have h2 := ih (fun y hy => h y (by simp [hy]))
    simp only [sumL, List.length_cons]
    have e : B * ((l.length + 1 : Nat) : Int) = B * (l.length : Int) + B := by
      rw [show ((l.length + 1 : Nat) : Int) = (l.length : Int) + 1 by omega, Int.mul_add, Int.mul_one]
    rw [e]
    omega

theorem u64 {x : Int} (h0 : 0 ≤ x) (h1 : x ≤ 9223372036854775807) : IntKind.u64.wrap x = x := IntWalk.u64_in x ⟨h0, by omega⟩

end Go.Proofs.YtihmjhchiomgbaaGreatDoor.M
