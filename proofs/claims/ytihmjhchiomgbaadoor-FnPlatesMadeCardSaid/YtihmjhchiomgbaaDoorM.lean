/- Plain lemmas on numbers, texts and rounds, for the pure statements of this seat. No program in sight. -/
import Derived.IntWalk
import Derived.Test.YtihmjhchiomgbaaDoorWMore
namespace Go.Proofs.YtihmjhchiomgbaaDoor.M
open Go.RowKit Go.Proofs.YtihmjhchiomgbaaDoorW.PrintWords
set_option linter.unusedVariables false

theorem w64 {x : Int} (h0 : -9223372036854775808 ≤ x) (h1 : x ≤ 9223372036854775807) : wrap64 x = x := by
  unfold wrap64; omega
theorem tdiv_pos {a : Int} {b : Int} (h : 0 ≤ a) : Int.tdiv a b = a / b := Int.tdiv_eq_ediv_of_nonneg h
theorem tmod_pos {a : Int} {b : Int} (h : 0 ≤ a) : Int.tmod a b = a % b := Int.tmod_eq_emod_of_nonneg h

/-- The decimal digits of a number, as bytes. -/
def digs (n : Nat) : List Int := if n < 10 then [48 + (n : Int)] else digs (n / 10) ++ [48 + ((n % 10 : Nat) : Int)]
decreasing_by omega

theorem digs_small {n : Nat} (h : n < 10) : digs n = [48 + (n : Int)] := by rw [digs, if_pos h]
theorem digs_big {n : Nat} (h : ¬ n < 10) : digs n = digs (n / 10) ++ [48 + ((n % 10 : Nat) : Int)] := by rw [digs, if_neg h]
theorem digs_le : ∀ (j n : Nat), n < 10 ^ j → (digs n).length ≤ j + 1 := by
  intro j
  induction j with
  | zero =>
    intro n h
    have : n < 10 := by simp at h; omega
    rw [digs_small this]; simp
  | succ j ih =>
    intro n h
    by_cases h1 : n < 10
    · rw [digs_small h1]; simp
    · rw [digs_big h1]
      have h2 : n / 10 < 10 ^ j := by
        have : 10 ^ (j + 1) = 10 ^ j * 10 := Nat.pow_succ 10 j
        omega
      have := ih _ h2
      simp; omega
theorem digs_le20 {n : Nat} (h : n ≤ 9223372036854775807) : (digs n).length ≤ 20 := by
  have := digs_le 19 n (by have : (10 : Nat) ^ 19 = 10000000000000000000 := by decide
                           omega)
  omega
theorem digs_pos (n : Nat) : 0 < (digs n).length := by
  by_cases h : n < 10
  · rw [digs_small h]; simp
  · rw [digs_big h]; simp

theorem strOfNums_append (xs ys : List Int) : strOfNums xs ++ strOfNums ys = strOfNums (xs ++ ys) := by
  apply ByteArray.ext
  simp [strOfNums]

theorem Ev_succ {α : Type} {g : Nat → Option α} {r : α} (h : Ev (fun k => g (k + 1)) r) : Ev g r := Ev.step (fun _ => rfl) h
theorem Ev_some {α : Type} {g : Nat → Option α} {r : α} (h : ∀ k, g k = some r) : Ev g r := ⟨0, fun k _ => h k⟩

/-! ### streets and plates as the document has them -/
def streetB (k p : Int) : Bool := decide (0 ≤ k ∧ k ≤ 2) && decide (1 ≤ p ∧ p ≤ 1000)
def houses (k p : Int) : Int := if k = 0 then p else 2 * p
def number (k p s q : Int) : Int := if k = 1 then 2 * q + 1 + s else if s = 1 then 2 * p - q else q + 1

def asked (k p n : Int) : Bool := streetB k p && decide (1 ≤ n ∧ n ≤ houses k p)
def side (k p n : Int) : Int := if k = 1 then (n - 1) % 2 else if n > p then 1 else 0
theorem rd_get {l : List Int} {i : Nat} (h : i < l.length) : rd l (i : Int) = l[i] := by
  unfold rd
  rw [Int.toNat_natCast, List.getD_eq_getElem?_getD, List.getElem?_eq_getElem h]; rfl

/-- The sum of numbers. -/
def sumL : List Int → Int
  | [] => 0
  | x :: l => x + sumL l
theorem sumL_append (l m : List Int) : sumL (l ++ m) = sumL l + sumL m := by
  induction l with
  | nil => simp [sumL]
  | cons x l ih => simp only [List.cons_append, sumL, ih]; omega
theorem sumL_take_succ {l : List Int} {i : Nat} (h : i < l.length) : sumL (l.take (i + 1)) = sumL (l.take i) + l[i] := by
  rw [List.take_succ_eq_append_getElem h, sumL_append]; simp [sumL]
theorem sumL_bd {l : List Int} (B : Int) (hB : 0 ≤ B) (h : ∀ x ∈ l, 0 ≤ x ∧ x ≤ B) : 0 ≤ sumL l ∧ sumL l ≤ B * l.length := by
  induction l with
  | nil => simp [sumL]
  | cons x l ih =>
    have h1 := h x (by simp)
    have h2 := ih (fun y hy => h y (by simp [hy]))
    simp only [sumL, List.length_cons]
    have e : B * ((l.length + 1 : Nat) : Int) = B * (l.length : Int) + B := by
      rw [show ((l.length + 1 : Nat) : Int) = (l.length : Int) + 1 by omega, Int.mul_add, Int.mul_one]
    rw [e]
    omega

/-- How often a digit is on the plate n. -/
def cd (d : Int) (n : Nat) : Int := if h : n = 0 then 0 else (if ((n % 10 : Nat) : Int) = d then 1 else 0) + cd d (n / 10)
decreasing_by omega
theorem cd_zero (d : Int) : cd d 0 = 0 := by rw [cd]; simp
theorem cd_pos (d : Int) {n : Nat} (h : 0 < n) : cd d n = (if ((n % 10 : Nat) : Int) = d then 1 else 0) + cd d (n / 10) := by
  rw [cd]; rw [dif_neg (by omega)]
theorem cd_nonneg (d : Int) (n : Nat) : 0 ≤ cd d n := by
  induction n using Nat.strongRecOn with
  | ind n ih =>
    by_cases h : n = 0
    · rw [h, cd_zero]; omega
    · rw [cd_pos d (by omega)]
      have := ih (n / 10) (by omega)
      split <;> omega
/-- How often a digit is on the plates up to n. -/
def totd (d : Int) : Nat → Int
  | 0 => 0
  | n + 1 => totd d n + cd d (n + 1)
theorem totd_mono (d : Int) (n : Nat) : ∀ m, totd d n ≤ totd d (n + m)
  | 0 => by simp
  | m + 1 => by
    have := totd_mono d n m
    have := cd_nonneg d (n + m + 1)
    have e : totd d (n + (m + 1)) = totd d (n + m) + cd d (n + m + 1) := rfl
    omega
theorem rd_set {l : List Int} {i : Nat} {v : Int} (h : i < l.length) (d : Nat) : rd (l.set i v) (d : Int) = if d = i then v else rd l (d : Int) := by
  unfold rd
  rw [Int.toNat_natCast, List.getD_eq_getElem?_getD, List.getD_eq_getElem?_getD, List.getElem?_set]
  by_cases c : d = i
  · subst c; simp [h]
  · rw [if_neg (fun z => c z.symm), if_neg c]
theorem rd_ext {l m : List Int} (hl : l.length = m.length) (h : ∀ d : Nat, d < l.length → rd l (d : Int) = rd m (d : Int)) : l = m := by
  apply List.ext_getElem hl
  intro i h1 h2
  have := h i h1
  rwa [rd_get h1, rd_get h2] at this

theorem u64 {x : Int} (h0 : 0 ≤ x) (h1 : x ≤ 9223372036854775807) : IntKind.u64.wrap x = x := IntWalk.u64_in x ⟨h0, by omega⟩

end Go.Proofs.YtihmjhchiomgbaaDoor.M
