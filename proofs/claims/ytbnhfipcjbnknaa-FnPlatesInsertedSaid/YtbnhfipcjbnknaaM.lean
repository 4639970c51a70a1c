/- Plain lemmas on numbers, texts and rounds, for the pure statements of this seat. No program in sight. -/
import Derived.IntWalk
import Derived.Test.YtbnhfipcjbnknaaWMore
namespace Go.Proofs.Ytbnhfipcjbnknaa.M
open Go.RowKit Go.Proofs.YtbnhfipcjbnknaaW.PrintWords
set_option linter.unusedVariables false

theorem w64 {x : Int} (h0 : -9223372036854775808 ≤ x) (h1 : x ≤ 9223372036854775807) : wrap64 x = x := by
  unfold wrap64; omega
theorem tdiv_pos {a : Int} {b : Int} (h : 0 ≤ a) : Int.tdiv a b = a / b := Int.tdiv_eq_ediv_of_nonneg h
theorem tmod_pos {a : Int} {b : Int} (h : 0 ≤ a) : Int.tmod a b = a % b := Int.tmod_eq_emod_of_nonneg h

theorem strOfNums_append (xs ys : List Int) : strOfNums xs ++ strOfNums ys = strOfNums (xs ++ ys) := by
  apply ByteArray.ext
  simp [strOfNums]

theorem Ev_succ {α : Type} {g : Nat → Option α} {r : α} (h : Ev (fun k => g (k + 1)) r) : Ev g r := Ev.step (fun _ => rfl) h
theorem Ev_some {α : Type} {g : Nat → Option α} {r : α} (h : ∀ k, g k = some r) : Ev g r := ⟨0, fun k _ => h k⟩

/-! ### streets and plates as the document has them -/
def streetB (k p : Int) : Bool := decide (0 ≤ k ∧ k ≤ 2) && decide (1 ≤ p ∧ p ≤ 1000)
def plateB (n l : Int) : Bool := decide (1 ≤ n ∧ n ≤ 9999) && decide (0 ≤ l ∧ l ≤ 26)
def rank (n l : Int) : Int := n * 27 + l
theorem plateB_iff {n l : Int} : plateB n l = true ↔ 1 ≤ n ∧ n ≤ 9999 ∧ 0 ≤ l ∧ l ≤ 26 := by simp [plateB, and_assoc]
theorem rank_bd {n l : Int} (h : plateB n l = true) : 27 ≤ rank n l ∧ rank n l ≤ 269999 := by
  have := plateB_iff.1 h; unfold rank; omega
theorem rank_inj {n l n' l' : Int} (h : plateB n l = true) (h' : plateB n' l' = true) (e : rank n l = rank n' l') : n = n' ∧ l = l' := by
  have := plateB_iff.1 h; have := plateB_iff.1 h'; unfold rank at e; omega
theorem plateB_of (r : Int) (h : 27 ≤ r) (h2 : r ≤ 269999) : plateB (r / 27) (r % 27) = true := by rw [plateB_iff]; omega

def houses (k p : Int) : Int := if k = 0 then p else 2 * p
def number (k p s q : Int) : Int := if k = 1 then 2 * q + 1 + s else if s = 1 then 2 * p - q else q + 1

def asked (k p n : Int) : Bool := streetB k p && decide (1 ≤ n ∧ n ≤ houses k p)
def side (k p n : Int) : Int := if k = 1 then (n - 1) % 2 else if n > p then 1 else 0
theorem u64 {x : Int} (h0 : 0 ≤ x) (h1 : x ≤ 9223372036854775807) : IntKind.u64.wrap x = x := IntWalk.u64_in x ⟨h0, by omega⟩

end Go.Proofs.Ytbnhfipcjbnknaa.M
