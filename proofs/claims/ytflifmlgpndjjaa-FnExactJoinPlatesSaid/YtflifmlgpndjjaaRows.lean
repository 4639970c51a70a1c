/-
  No cell of these rows narrows 'for every input' (looked for: loops, veiled, ifaces, maps, wideKeys, modest, calm, conditions, laid).
  DERIVED. THE GIVEN ROWS OF THIS SEAT. 3 by the template 'for every input the law returns true; each argument reads behind the call as it read before'; 0 by the template 'total and deterministic' (their statements: YtflifmlgpndjjaaTotals.lean).
  GIVEN WITH THE SEED: the statements are not yours to turn. If you find one false, say at which input.
  Laid BY PROGRAM, IN A SANDBOX (cutbox-rows.mjs): the forced cells as the released guide's own fill.sh prints them over the translation d875d4331521ee7c… (all of the seat's roots in one cut). By AI agents, Wed Nov 11 2026. No macro, syntax, notation, axiom, sorry.
-/
import Derived.Test.YtflifmlgpndjjaaChecked
import GoSem.Claim
import GoSem.ClaimJoined
import GoSem.ClaimMapViews
import Derived.JoinedTies
import Derived.KernelRfl
namespace Go.Proofs.Ytflifmlgpndjjaa
/- THE CELL 'sum', in the pinned program and in every row, IS THE sha256 OF THE DUMP (.gsa) THAT YtflifmlgpndjjaaProg.lean LOADS. Nothing in Lean hashes anything: it is a label: what it is worth is what the hold of that sum in a sandbox is worth. -/
noncomputable def Try.pinned : Pinned := { name := "ytflifmlgpndjjaa", sum := "d875d4331521ee7c7422c0eac3347a0d5a82481ad0c4170f5976393c9b049926", checked := Try.checked }
namespace Rows
def none {H : Type} : Left H := { results := [], args := [] }

/-- 'laws.FnExactAddPlate': WHATEVER THE INPUT: true; the input reads as it did. -/
def fnExactAddPlateSpec : ChangeSpec := { name := "fnExactAddPlate", fn := fun _ => fun
  | [d1, d2] => { results := [.lit (.bool true)], args := [d1, d2] }
  | _ => none }
def fnExactAddPlateRow : OpenClaim := { program := "ytflifmlgpndjjaa", sum := "d875d4331521ee7c7422c0eac3347a0d5a82481ad0c4170f5976393c9b049926", func := "loop.example/g01336/laws.FnExactAddPlate", spec := "fnExactAddPlate", unfollowed := true, recurses := true, apart := false }
def FnExactAddPlateSaid : Prop := fnExactAddPlateRow.holds Try.pinned (OpenSpec.ofChange fnExactAddPlateSpec)

/-- ITS FALSE NEIGHBOUR: 'it returns false'. Refute it at one input. -/
def fnExactAddPlateWrong : ChangeSpec := { name := "fnExactAddPlate", fn := fun _ => fun
  | [d1, d2] => { results := [.lit (.bool false)], args := [d1, d2] }
  | _ => none }
def FnExactAddPlateWrongFalsely : Prop := fnExactAddPlateRow.holds Try.pinned (OpenSpec.ofChange fnExactAddPlateWrong)

/-- 'laws.FnExactInsertBehind': WHATEVER THE INPUT: true; the input reads as it did. -/
def fnExactInsertBehindSpec : ChangeSpec := { name := "fnExactInsertBehind", fn := fun _ => fun
  | [d1, d2] => { results := [.lit (.bool true)], args := [d1, d2] }
  | _ => none }
def fnExactInsertBehindRow : OpenClaim := { program := "ytflifmlgpndjjaa", sum := "d875d4331521ee7c7422c0eac3347a0d5a82481ad0c4170f5976393c9b049926", func := "loop.example/g01336/laws.FnExactInsertBehind", spec := "fnExactInsertBehind", unfollowed := true, recurses := true, apart := false }
def FnExactInsertBehindSaid : Prop := fnExactInsertBehindRow.holds Try.pinned (OpenSpec.ofChange fnExactInsertBehindSpec)

/-- ITS FALSE NEIGHBOUR: 'it returns false'. Refute it at one input. -/
def fnExactInsertBehindWrong : ChangeSpec := { name := "fnExactInsertBehind", fn := fun _ => fun
  | [d1, d2] => { results := [.lit (.bool false)], args := [d1, d2] }
  | _ => none }
def FnExactInsertBehindWrongFalsely : Prop := fnExactInsertBehindRow.holds Try.pinned (OpenSpec.ofChange fnExactInsertBehindWrong)

/-- 'laws.FnExactJoinPlates': WHATEVER THE INPUT: true; the input reads as it did. -/
def fnExactJoinPlatesSpec : ChangeSpec := { name := "fnExactJoinPlates", fn := fun _ => fun
  | [d1, d2] => { results := [.lit (.bool true)], args := [d1, d2] }
  | _ => none }
def fnExactJoinPlatesRow : OpenClaim := { program := "ytflifmlgpndjjaa", sum := "d875d4331521ee7c7422c0eac3347a0d5a82481ad0c4170f5976393c9b049926", func := "loop.example/g01336/laws.FnExactJoinPlates", spec := "fnExactJoinPlates", unfollowed := true, recurses := true, apart := false }
def FnExactJoinPlatesSaid : Prop := fnExactJoinPlatesRow.holds Try.pinned (OpenSpec.ofChange fnExactJoinPlatesSpec)

/-- ITS FALSE NEIGHBOUR: 'it returns false'. Refute it at one input. -/
def fnExactJoinPlatesWrong : ChangeSpec := { name := "fnExactJoinPlates", fn := fun _ => fun
  | [d1, d2] => { results := [.lit (.bool false)], args := [d1, d2] }
  | _ => none }
def FnExactJoinPlatesWrongFalsely : Prop := fnExactJoinPlatesRow.holds Try.pinned (OpenSpec.ofChange fnExactJoinPlatesWrong)

/- THE SECOND FORM. 'bulk': how many values and letters a reading holds, each counted each time it is reached (what is shared counts as often as it is met; a slice's spare places count too). A statement '..UptoSaid' is the law's where the arguments, and the package variables that the reading takes, are together of bulk at most 1048576: NARROWER than '..Said'. Prove '..Said' where nothing that the law and all that it calls make is longer than what came in: it says more and counts as full. Else prove '..UptoSaid'. A law counts once. -/
mutual
def uptoBulk {H : Type} : DataW H → Nat
  | .lit (.string bytes) => bytes.length + 1
  | .lit _ => 1
  | .nil => 1
  | .ptr d => uptoBulk d + 1
  | .slice elems spare => uptoBulkAll elems + uptoBulkAll spare + 1
  | .agg parts => uptoBulkAll parts + 1
  | .iface _ d => uptoBulk d + 1
  | .map entries => uptoBulkEntries entries + 1
  | .held _ => 1
def uptoBulkAll {H : Type} : List (DataW H) → Nat
  | [] => 0
  | d :: r => uptoBulk d + uptoBulkAll r
def uptoBulkEntries {H : Type} : List (Lit × DataW H) → Nat
  | [] => 0
  | x :: r => uptoBulkEntry x + uptoBulkEntries r
def uptoBulkEntry {H : Type} : Lit × DataW H → Nat
  | (.string bytes, d) => bytes.length + uptoBulk d + 1
  | (_, d) => uptoBulk d + 1
 end
def uptoSmall : (H : Type) → List (DataW H) → Bool := fun _ ds => decide (uptoBulkAll ds ≤ 1048576)
def OpenSpec.upto (s : _root_.Go.ChangeSpec) : _root_.Go.OpenSpec := { _root_.Go.OpenSpec.ofChange s with cond := some uptoSmall }

/-- 'laws.FnExactAddPlate', WHERE WHAT IT READS IS OF BULK AT MOST 1048576: true; the input reads as it did. -/
def fnExactAddPlateUptoRow : OpenClaim := { program := "ytflifmlgpndjjaa", sum := "d875d4331521ee7c7422c0eac3347a0d5a82481ad0c4170f5976393c9b049926", func := "loop.example/g01336/laws.FnExactAddPlate", spec := "fnExactAddPlate", unfollowed := true, recurses := true, apart := false, narrowed := true }
def FnExactAddPlateUptoSaid : Prop := fnExactAddPlateUptoRow.holds Try.pinned (OpenSpec.upto fnExactAddPlateSpec)

/-- 'laws.FnExactInsertBehind', WHERE WHAT IT READS IS OF BULK AT MOST 1048576: true; the input reads as it did. -/
def fnExactInsertBehindUptoRow : OpenClaim := { program := "ytflifmlgpndjjaa", sum := "d875d4331521ee7c7422c0eac3347a0d5a82481ad0c4170f5976393c9b049926", func := "loop.example/g01336/laws.FnExactInsertBehind", spec := "fnExactInsertBehind", unfollowed := true, recurses := true, apart := false, narrowed := true }
def FnExactInsertBehindUptoSaid : Prop := fnExactInsertBehindUptoRow.holds Try.pinned (OpenSpec.upto fnExactInsertBehindSpec)

/-- 'laws.FnExactJoinPlates', WHERE WHAT IT READS IS OF BULK AT MOST 1048576: true; the input reads as it did. -/
def fnExactJoinPlatesUptoRow : OpenClaim := { program := "ytflifmlgpndjjaa", sum := "d875d4331521ee7c7422c0eac3347a0d5a82481ad0c4170f5976393c9b049926", func := "loop.example/g01336/laws.FnExactJoinPlates", spec := "fnExactJoinPlates", unfollowed := true, recurses := true, apart := false, narrowed := true }
def FnExactJoinPlatesUptoSaid : Prop := fnExactJoinPlatesUptoRow.holds Try.pinned (OpenSpec.upto fnExactJoinPlatesSpec)

end Rows
end Go.Proofs.Ytflifmlgpndjjaa
