/- Words for the printed steps: what a step would say at length is a default. -/
import Derived.Test.YtbnhfipcjbnknaaGreatDoorProg
import Derived.Below
import Derived.Deep.Draws
import Derived.Deep.AppendLies
import Derived.Maps.AppendAt
import Derived.OwnWalk
import Derived.Laws.BytesArg
import Derived.Laws.MakeOwn
import Derived.Laws.OwnMore
import Derived.Deep.OwnRows
import Derived.Tactics
import Derived.Lib.ConvBytes
import Derived.Laws.Slices
import Derived.WalkKit
import Derived.KernelRfl
import Derived.RowKit3
import Derived.Deep.LoopGhost
import Derived.Deep.QuietTactic
import Derived.BigQuiet
import Derived.WideLaws
import Derived.Deep.DeepCutAuto
import Derived.Deep.CutBlock
import Derived.Deep.RegionHeld3
import Derived.Laws.Rows
import Derived.Lib.AppendStr
import Derived.ArgAppend
import Derived.Laws.IdiomCopy
import Derived.OrdersHeld
import Derived.Laws.BitsLemmas
import Derived.RowKit
import Derived.Test.YtbnhfipcjbnknaaGreatDoorWWords
import Derived.Test.YtbnhfipcjbnknaaGreatDoorWLast
import Derived.Test.YtbnhfipcjbnknaaGreatDoorWTab
import Derived.Test.YtbnhfipcjbnknaaGreatDoorWFour
import Derived.Test.YtbnhfipcjbnknaaGreatDoorWQPut
import Derived.Test.YtbnhfipcjbnknaaGreatDoorWApart
import Derived.Test.YtbnhfipcjbnknaaGreatDoorWArr
import Derived.Test.YtbnhfipcjbnknaaGreatDoorWZeros
import Derived.Test.YtbnhfipcjbnknaaGreatDoorWFoot
import Derived.Test.YtbnhfipcjbnknaaGreatDoorWKept
import Derived.Test.YtbnhfipcjbnknaaGreatDoorWShare
import Derived.Test.YtbnhfipcjbnknaaGreatDoorWN
import Derived.Test.YtbnhfipcjbnknaaGreatDoorWFootNe
import Derived.Test.YtbnhfipcjbnknaaGreatDoorWAt
import Derived.Test.YtbnhfipcjbnknaaGreatDoorWEqStruct
import Derived.Test.YtbnhfipcjbnknaaGreatDoorWRepsOne
import Derived.Test.YtbnhfipcjbnknaaGreatDoorWInv
import Derived.Test.YtbnhfipcjbnknaaGreatDoorWInvWords
import Derived.Test.YtbnhfipcjbnknaaGreatDoorWGuard
import Derived.Test.YtbnhfipcjbnknaaGreatDoorWNEv
import Derived.Test.YtbnhfipcjbnknaaGreatDoorWMore
namespace Go.Proofs.YtbnhfipcjbnknaaGreatDoorW.PrintLast
open Go Go.RowKit Go.Proofs.YtbnhfipcjbnknaaGreatDoorW.PrintWords Go.Proofs.YtbnhfipcjbnknaaGreatDoorW.PrintMore
set_option linter.unusedVariables false
/-- What a printed step says at length is a default here: the words ask it of the facts at hand. -/
theorem bO_ {b : Nat} {w W : World} (h : Below b w W := by repeat (first | (with_reducible first | exact Aside0.out ‹_› | apply below_alloc | apply pw_below_drewN | apply below_drew1 | refine below_set ?_ (Aside0.out ‹_›) | refine below_set ?_ (IsS64.ge (Aside0.out ‹_›))))) : Below b w W := h
theorem bT_ {w W w2 : World} (hb : Below W.heap.size W w2) (h : Below w.heap.size w W := by repeat (first | (with_reducible first | exact Aside0.out ‹_› | apply below_alloc | apply pw_below_drewN | apply below_drew1 | refine below_set ?_ (Aside0.out ‹_›) | refine below_set ?_ (IsS64.ge (Aside0.out ‹_›))))) : Aside0 (Below w.heap.size w w2) := ⟨below_step h hb⟩
theorem gW_ {w W : World} {g : Nat} (hg : g = W.heap.size) (h : Below w.heap.size w W := by repeat (first | (with_reducible first | exact Aside0.out ‹_› | apply below_alloc | apply pw_below_drewN | apply below_drew1 | refine below_set ?_ (Aside0.out ‹_›) | refine below_set ?_ (IsS64.ge (Aside0.out ‹_›))))) : Aside0 (w.heap.size ≤ g) := ⟨by rw [hg]; exact below_size h⟩
theorem kO_ {w W : World} {g : Nat} {row : Option Nat} (h : KeepBut w W g row := by repeat (first | (with_reducible first | exact Aside0.out ‹_› | apply KeepBut.set_ | apply keep_drewN | apply keep_drew | apply keep_alloc | refine keep_far ?_ (Aside0.out ‹_›) _))) : KeepBut w W g row := h
theorem kT_ {w W W2 : World} {g : Nat} {row : Option Nat} (hk : KeepBut W W2 g row) (h : KeepBut w W g row := by repeat (first | (with_reducible first | exact Aside0.out ‹_› | apply KeepBut.set_ | apply keep_drewN | apply keep_drew | apply keep_alloc | refine keep_far ?_ (Aside0.out ‹_›) _))) : Aside0 (KeepBut w W2 g row) := ⟨KeepBut.trans h hk (.inl rfl)⟩
theorem aO_ {w : World} {g : Nat} {o : Obj} (h : w.heap[g]? = some o := by (with_reducible repeat (first | refine blk_drewN ?_ _ | refine blk_drew ?_ | refine blk_alloc ?_ _)); (with_reducible exact Aside0.out ‹_›)) : w.heap[g]? = some o := h
theorem bB_ {w w1 : World} {g : Nat} {o : Obj} (hb : Below w.heap.size w w1) (h : w.heap[g]? = some o := by (with_reducible repeat (first | refine blk_drewN ?_ _ | refine blk_drew ?_ | refine blk_alloc ?_ _)); (with_reducible exact Aside0.out ‹_›)) : Aside0 (w1.heap[g]? = some o) := ⟨blk_below h hb⟩
theorem cO_ {α : Type} {d : Kd α} {w : World} {A : Option Addr} {n : Nat} {xs : List α} (h : d.C w A n xs := by repeat (first | (with_reducible exact Aside0.out ‹_›) | (with_reducible exact Kd.C_below (Aside0.out ‹_›) (Aside0.out ‹_›)) | (with_reducible refine Kd.C_alloc ?_ _) | (with_reducible refine Kd.C_drewN ?_ _) | (with_reducible refine Kd.C_drew ?_) | with_reducible exact Kd.C_below (Aside0.out ‹_›) bO_)) : d.C w A n xs := h
theorem od_ {p : Prop} [Decidable p] (h : decide p = true := by assumption) : p := of_decide_eq_true h
theorem obA {α β : Type} {o : Option α} {f : α → Option β} {b : β} (h : o.bind f = some b) : ∃ a, Aside0 (o = some a) ∧ f a = some b := by
  obtain ⟨a, h1, h2⟩ := Option.bind_eq_some_iff.mp h
  exact ⟨a, ⟨h1⟩, h2⟩
theorem obY {α β : Type} {x : α} {f : α → Option β} {b : β} (h : (some x).bind f = some b) : ∃ y, Aside0 (y = x) ∧ f y = some b := ⟨x, ⟨rfl⟩, h⟩
section
variable {P : Program} {ops : Array Oper} {rest : List Oper} {Q : Exit → Act → World → Prop} {md : Region.Mode} {S : World → Prop} {ds : List Nat} {fuel : Nat} {l : Array Bool} {oi : Oper} {v : Value} {a a' : Act} {w : World} {T : Bool × List (List Nat × List Nat)} {B : List Nat}
theorem bx_ (N : Tmp) (cs : Array Value) (t : TypeId)
    (h : ∀ g : Nat, g = w.heap.size → ∀ w1 : World, Aside0 (w1.heap[g]? = some (Obj.cells cs t)) → Below w.heap.size w w1 → wpList P ops Q rest (a.put oi.dst (Value.pointer (some { block := g, off := 0 }))) w1)
    (hd : oi.dst = some N := by exact rfl) (hg : oi.guard = none := by exact rfl)
    (hr : Sem.run P (execOp a.eval oi) w = Result.ok (Next.value (Value.pointer (some { block := w.heap.size, off := 0 }))) (w.alloc (Obj.cells cs t)) := by first | (go_simp; done) | (go_simp; rfl)) :
    wpList P ops Q (oi :: rest) a w := box_event hg hd hr (fun g hg w1 hbox hb => h g hg w1 ⟨hbox⟩ hb)
theorem gL_ {f : FuncId} {fn : Func} {xs : Array Operand} {ts : Array TypeId} (hf : P.funcs[f]? = some fn) (N : Option Tmp) (args : Array Value)
    (h : Calls P f args w fun e w' => ∃ v, e = .returned v ∧ wpList P ops Q rest (a.put N v) w')
    (h5 : oi.op = Op.call { callee := Callee.value (Operand.func f), args := xs, argTypes := ts } := by exact rfl) (h1 : oi.dst = N := by exact rfl) (h2 : oi.guard = none := by exact rfl)
    (h3 : (fn.name == "runtime.NumGoroutine") = false := by kernel_rfl) (h4 : fn.body.isSome = true := by exact rfl)
    (h6 : Array.map a.eval xs = args := by (try simp only [List.map_toArray, List.map_cons, List.map_nil]); first | done | rfl | (simp only [List.length_drop, List.length_take]; rfl)) :
    wpList P ops Q (oi :: rest) a w := goesL_ N h1 h2 hf h3 h4 args h5 h6 h
theorem gS_ {N : Option Tmp} {K : Act → World → Prop} {f : FuncId} {fn : Func} {xs : Array Operand} {ts : Array TypeId} (hf : P.funcs[f]? = some fn) (args : Array Value)
    (h : Calls P f args w fun e w' => ∃ v, e = .returned v ∧ K (a.put N v) w')
    (h5 : oi.op = Op.call { callee := Callee.value (Operand.func f), args := xs, argTypes := ts } := by exact rfl) (hw : Region.wanted oi (yielded ops a.tmps) = true := by rfl) (h1 : oi.dst = N := by exact rfl)
    (h3 : (fn.name == "runtime.NumGoroutine") = false := by kernel_rfl) (h4 : fn.body.isSome = true := by exact rfl)
    (h6 : Array.map a.eval xs = args := by (try simp only [List.map_toArray, List.map_cons, List.map_nil]); first | done | rfl | (simp only [List.length_drop, List.length_take]; rfl)) :
    if Region.wanted oi (yielded ops a.tmps) = true then Oper.wp P oi a w K Q else K (a.put N undef) w := goes_ hf h3 h4 args hw h1 h5 h6 h
theorem pu_ (i : Nat) (n : Tmp) (l' : Array Bool) (h : wpAnyLast P md ops Q S ds fuel l' a' w)
    (hT : Aside0 (rtab md ops = T) := by assumption) (hi : ops[i]? = some oi := by exact rfl) (hN : oi.dst = some n := by exact rfl) (hc : anyT T l.toList l'.toList i = true := by kernel_rfl)
    (hy : Yields P ops oi v a := by refine Or.inl ⟨by rfl, ?_⟩; intro w'; go_simp; with_reducible rfl)
    (ha : a.put (some n) v = a' := by simp only [sp_]; rfl)
    (hQ : ∀ c a w, Q (.panic c) (a.put oi.dst v) w → Q (.panic c) a w := by exact fun _ _ _ h => h) : wpAnyLast P md ops Q S ds (fuel + 1) l a w :=
  pure_ l' hi hN (any_of hT.out hc) hQ hy ha h
theorem ta_ (i : Nat) (n : Tmp) (l' : Array Bool) (h : wpAnyLast P md ops Q S ds fuel l' a' w)
    (hT : Aside0 (rtab md ops = T) := by assumption) (hB : Aside0 (waitsOk T.2 B = true) := by assumption) (hi : ops[i]? = some oi := by exact rfl) (hN : oi.dst = some n := by exact rfl) (hc : takeW T B ds l.toList l'.toList i = true := by kernel_rfl)
    (hy : YieldsIf P ops S oi v a := by refine Or.inl ⟨by rfl, ?_⟩; first | (rintro w' ⟨s0, s1, s2, s3, s4, s5⟩; go_simp; with_reducible rfl) | (rintro w' ⟨s0, s1, s2, s3, s4⟩; go_simp; with_reducible rfl) | (rintro w' ⟨s0, s1, s2, s3⟩; go_simp; with_reducible rfl) | (rintro w' ⟨s0, s1, s2⟩; go_simp; with_reducible rfl) | (rintro w' ⟨s0, s1⟩; go_simp; with_reducible rfl) | (rintro w' s0; go_simp; with_reducible rfl))
    (ha : a.put (some n) v = a' := by simp only [sp_]; rfl) (hS : S w := by assumption)
    (hQ : ∀ c a w, Q (.panic c) (a.put oi.dst v) w → Q (.panic c) a w := by exact fun _ _ _ h => h) : wpAnyLast P md ops Q S ds (fuel + 1) l a w :=
  take_ l' hi hN (take_ofW hT.out hB.out hc) hQ hy hS ha h
theorem on_ (i : Nat) (n : Option Tmp) (l' : Array Bool)
    (h : ∀ K : Act → World → Prop, Shut (∀ a' w', S w' → (S w' → wpAnyLast P md ops Q S ds fuel l' a' w') → K a' w') → if Region.wanted oi (yielded ops a.tmps) = true then Oper.wp P oi a w K Q else K (a.put n undef) w)
    (hT : Aside0 (rtab md ops = T) := by assumption) (hi : ops[i]? = some oi := by exact rfl) (hN : oi.dst = n := by exact rfl) (hc : (readyT T.2 l.toList == [i] && l.toList.set i true == l'.toList) = true := by kernel_rfl) (hd : i ∉ ds := by decide) :
    wpAnyLast P md ops Q S ds (fuel + 1) l a w := one_ l' hi hN (one_of hT.out hc) hd h
theorem nm_ (h : wpAnyLast P md ops Q S ds fuel l a' w) (ha : a = a' := by show Act.put _ (some _) _ = _; simp only [sp_]; rfl) : wpAnyLast P md ops Q S ds fuel l a w := norm_ ha h
theorem hS_ {K : Act → World → Prop} {S : World → Prop} {R : Act → World → Prop} {a : Act} {w : World} (hK : Shut (∀ a' w', S w' → (S w' → R a' w') → K a' w')) (h : S w → R a w)
    (hS : S w := by (first | exact trivial | (repeat' apply And.intro) <;> first | exact (blk_cell (Aside0.out ‹_›) _).trans rfl | exact (Below.cell (Aside0.out ‹_›) (World.block_lt_of_cell? _ _ ‹_›)).trans ‹_›)) : K a w := hK.out a w hS h
end
end Go.Proofs.YtbnhfipcjbnknaaGreatDoorW.PrintLast
