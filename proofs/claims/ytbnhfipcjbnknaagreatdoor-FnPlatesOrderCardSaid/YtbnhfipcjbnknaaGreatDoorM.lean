/- Plain lemmas on numbers, texts and rounds, for the pure statements of this seat. No program in sight. -/
import Derived.IntWalk
import Derived.Test.YtbnhfipcjbnknaaGreatDoorWMore
namespace Go.Proofs.YtbnhfipcjbnknaaGreatDoor.M
open Go.RowKit Go.Proofs.YtbnhfipcjbnknaaGreatDoorW.PrintWords
set_option linter.unusedVariables false

theorem w64 {x : Int} (h0 : -9223372036854775808 ≤ x) (h1 : x ≤ 9223372036854775807) : wrap64 x = x := by
  unfold wrap64; omega
theorem tdiv_pos {a : Int} {b : Int} (h : 0 ≤ a) : Int.tdiv a b = a / b := Int.tdiv_eq_ediv_of_nonneg h
theorem tmod_pos {a : Int} {b : Int} (h : 0 ≤ a) : Int.tmod a b = a % b := Int.tmod_eq_emod_of_nonneg h

/-- The decimal digits of a number, as bytes. -/
def digs (n : Nat) : List Int := if n < 10 then [48 + (n : Int)] else digs (n / 10) ++ [48 + ((n % 10 : Nat) : Int)]
decreasing_by omega

theorem digs_small {n : Nat} (h : n < 10) : digs n = [48 + (n : Int)] := by rw [digs, if_pos h]
theorem digs_big {n : Nat} (h : ¬ n < 10) : digs n = digs (n / 10) ++ [48 + ((n % 10 : Nat) : Int)] := by rw [digs, if_neg h]
theorem digs_le : ∀ (j n : Nat), n < 10 ^ j → (digs n).length ≤ j + 1 := by
  intro j
  induction j with
  | zero =>
    intro n h
    have : n < 10 := by simp at h; omega
    rw [digs_small this]; simp
  | succ j ih =>
    intro n h
    by_cases h1 : n < 10
    · rw [digs_small h1]; simp
    · rw [digs_big h1]
      have h2 : n / 10 < 10 ^ j := by
        have : 10 ^ (j + 1) = 10 ^ j * 10 := Nat.pow_succ 10 j
        omega
      have := ih _ h2
      simp; omega
theorem digs_le20 {n : Nat} (h : n ≤ 9223372036854775807) : (digs n).length ≤ 20 := by
  have := digs_le 19 n (by have : (10 : Nat) ^ 19 = 10000000000000000000 := by decide
                           omega)
  omega
theorem digs_pos (n : Nat) : 0 < (digs n).length := by
  by_cases h : n < 10
  · rw [digs_small h]; simp
  · rw [digs_big h]; simp

theorem strOfNums_append (xs ys : List Int) : strOfNums xs ++ strOfNums ys = strOfNums (xs ++ ys) := by
  apply ByteArray.ext
  simp [strOfNums]

theorem Ev_succ {α : Type} {g : Nat → Option α} {r : α} (h : Ev (fun k => g (k + 1)) r) : Ev g r := Ev.step (fun _ => rfl) h
theorem Ev_some {α : Type} {g : Nat → Option α} {r : α} (h : ∀ k, g k = some r) : Ev g r := ⟨0, fun k _ => h k⟩

/-! ### streets and plates as the document has them -/
def streetB (k p : Int) : Bool := decide (0 ≤ k ∧ k ≤ 2) && decide (1 ≤ p ∧ p ≤ 1000)
def plateB (n l : Int) : Bool := decide (1 ≤ n ∧ n ≤ 9999) && decide (0 ≤ l ∧ l ≤ 26)
def rank (n l : Int) : Int := n * 27 + l
theorem plateB_iff {n l : Int} : plateB n l = true ↔ 1 ≤ n ∧ n ≤ 9999 ∧ 0 ≤ l ∧ l ≤ 26 := by simp [plateB, and_assoc]
theorem rank_bd {n l : Int} (h : plateB n l = true) : 27 ≤ rank n l ∧ rank n l ≤ 269999 := by
  have := plateB_iff.1 h; unfold rank; omega
theorem rank_inj {n l n' l' : Int} (h : plateB n l = true) (h' : plateB n' l' = true) (e : rank n l = rank n' l') : n = n' ∧ l = l' := by
  have := plateB_iff.1 h; have := plateB_iff.1 h'; unfold rank at e; omega
theorem plateB_of (r : Int) (h : 27 ≤ r) (h2 : r ≤ 269999) : plateB (r / 27) (r % 27) = true := by rw [plateB_iff]; omega

def houses (k p : Int) : Int := if k = 0 then p else 2 * p
def number (k p s q : Int) : Int := if k = 1 then 2 * q + 1 + s else if s = 1 then 2 * p - q else q + 1

def asked (k p n : Int) : Bool := streetB k p && decide (1 ≤ n ∧ n ≤ houses k p)
def side (k p n : Int) : Int := if k = 1 then (n - 1) % 2 else if n > p then 1 else 0
theorem take_set_succ {α : Type} {acc tgt : List α} {i : Nat} {v : α} (h : i < acc.length) (ht : i < tgt.length) (e : acc.take i = tgt.take i) (hv : v = tgt[i]) : (acc.set i v).take (i + 1) = tgt.take (i + 1) := by
  rw [List.take_succ_eq_append_getElem (by rw [List.length_set]; exact h), List.take_succ_eq_append_getElem ht, List.take_set, List.set_eq_of_length_le (by simp; omega), e]
  congr 1
  simp [hv]
theorem take_all {α : Type} {acc tgt : List α} {i : Nat} (h : acc.length = i) (ht : tgt.length = i) (e : acc.take i = tgt.take i) : acc = tgt := by
  rwa [List.take_of_length_le (by omega), List.take_of_length_le (by omega)] at e
/-- m, m+1, .. -/
def runI (m : Int) (n : Nat) : List Int := (List.range n).map fun (i : Nat) => m + (i : Int)
theorem runI_length (m : Int) (n : Nat) : (runI m n).length = n := by simp [runI]
theorem runI_get (m : Int) (n i : Nat) (h : i < (runI m n).length) : (runI m n)[i] = m + (i : Int) := by simp [runI]
theorem rd_get {l : List Int} {i : Nat} (h : i < l.length) : rd l (i : Int) = l[i] := by
  unfold rd
  rw [Int.toNat_natCast, List.getD_eq_getElem?_getD, List.getElem?_eq_getElem h]; rfl

theorem runI_succ (m : Int) (n : Nat) : runI m (n + 1) = m :: runI (m + 1) n := by
  apply List.ext_getElem
  · simp [runI]
  · intro i h1 h2
    rw [runI_get]
    cases i with
    | zero => simp
    | succ i => rw [List.getElem_cons_succ, runI_get]; omega

theorem u64 {x : Int} (h0 : 0 ≤ x) (h1 : x ≤ 9223372036854775807) : IntKind.u64.wrap x = x := IntWalk.u64_in x ⟨h0, by omega⟩

end Go.Proofs.YtbnhfipcjbnknaaGreatDoor.M
