/-
  No cell of these rows narrows 'for every input' (looked for: loops, veiled, ifaces, maps, wideKeys, modest, calm, conditions, laid).
  DERIVED. THE GIVEN ROWS OF THIS SEAT. 12 by the template 'for every input the law returns true; each argument reads behind the call as it read before'; 0 by the template 'total and deterministic' (their statements: YtfoefaniefmgoaaTotals.lean).
  GIVEN WITH THE SEED: the statements are not yours to turn. If you find one false, say at which input.
  Laid BY PROGRAM, IN A SANDBOX (cutbox-rows.mjs): the forced cells as the released guide's own fill.sh prints them over the translation e9205868eecbe2b6… (all of the seat's roots in one cut). By AI agents, Wed Nov 11 2026. No macro, syntax, notation, axiom, sorry.
-/
import Derived.Test.YtfoefaniefmgoaaChecked
import GoSem.Claim
import GoSem.ClaimJoined
import GoSem.ClaimMapViews
import Derived.JoinedTies
import Derived.KernelRfl
namespace Go.Proofs.Ytfoefaniefmgoaa
/- THE CELL 'sum', in the pinned program and in every row, IS THE sha256 OF THE DUMP (.gsa) THAT YtfoefaniefmgoaaProg.lean LOADS. Nothing in Lean hashes anything: it is a label: what it is worth is what the hold of that sum in a sandbox is worth. -/
noncomputable def Try.pinned : Pinned := { name := "ytfoefaniefmgoaa", sum := "e9205868eecbe2b68a338d35a1076f0e8226d6adf5ab49c25f461bb10d4c78b1", checked := Try.checked }
namespace Rows
def none {H : Type} : Left H := { results := [], args := [] }

/-- 'laws.FnExactMiddlePlate': WHATEVER THE INPUT: true; the input reads as it did. -/
def fnExactMiddlePlateSpec : ChangeSpec := { name := "fnExactMiddlePlate", fn := fun _ => fun
  | [d1, d2] => { results := [.lit (.bool true)], args := [d1, d2] }
  | _ => none }
def fnExactMiddlePlateRow : OpenClaim := { program := "ytfoefaniefmgoaa", sum := "e9205868eecbe2b68a338d35a1076f0e8226d6adf5ab49c25f461bb10d4c78b1", func := "loop.example/g01336/laws.FnExactMiddlePlate", spec := "fnExactMiddlePlate", apart := false }
def FnExactMiddlePlateSaid : Prop := fnExactMiddlePlateRow.holds Try.pinned (OpenSpec.ofChange fnExactMiddlePlateSpec)

/-- ITS FALSE NEIGHBOUR: 'it returns false'. Refute it at one input. -/
def fnExactMiddlePlateWrong : ChangeSpec := { name := "fnExactMiddlePlate", fn := fun _ => fun
  | [d1, d2] => { results := [.lit (.bool false)], args := [d1, d2] }
  | _ => none }
def FnExactMiddlePlateWrongFalsely : Prop := fnExactMiddlePlateRow.holds Try.pinned (OpenSpec.ofChange fnExactMiddlePlateWrong)

/-- 'laws.FnExactBackDeliveries': WHATEVER THE INPUT: true; the input reads as it did. -/
def fnExactBackDeliveriesSpec : ChangeSpec := { name := "fnExactBackDeliveries", fn := fun _ => fun
  | [d] => { results := [.lit (.bool true)], args := [d] }
  | _ => none }
def fnExactBackDeliveriesRow : OpenClaim := { program := "ytfoefaniefmgoaa", sum := "e9205868eecbe2b68a338d35a1076f0e8226d6adf5ab49c25f461bb10d4c78b1", func := "loop.example/g01336/laws.FnExactBackDeliveries", spec := "fnExactBackDeliveries", inPlace := ["internal/bytealg.IndexByteString"], apart := false }
def FnExactBackDeliveriesSaid : Prop := fnExactBackDeliveriesRow.holds Try.pinned (OpenSpec.ofChange fnExactBackDeliveriesSpec)

/-- ITS FALSE NEIGHBOUR: 'it returns false'. Refute it at one input. -/
def fnExactBackDeliveriesWrong : ChangeSpec := { name := "fnExactBackDeliveries", fn := fun _ => fun
  | [d] => { results := [.lit (.bool false)], args := [d] }
  | _ => none }
def FnExactBackDeliveriesWrongFalsely : Prop := fnExactBackDeliveriesRow.holds Try.pinned (OpenSpec.ofChange fnExactBackDeliveriesWrong)

/-- 'laws.FnExactComparePlates': WHATEVER THE INPUT: true; the input reads as it did. -/
def fnExactComparePlatesSpec : ChangeSpec := { name := "fnExactComparePlates", fn := fun _ => fun
  | [d1, d2] => { results := [.lit (.bool true)], args := [d1, d2] }
  | _ => none }
def fnExactComparePlatesRow : OpenClaim := { program := "ytfoefaniefmgoaa", sum := "e9205868eecbe2b68a338d35a1076f0e8226d6adf5ab49c25f461bb10d4c78b1", func := "loop.example/g01336/laws.FnExactComparePlates", spec := "fnExactComparePlates", apart := false }
def FnExactComparePlatesSaid : Prop := fnExactComparePlatesRow.holds Try.pinned (OpenSpec.ofChange fnExactComparePlatesSpec)

/-- ITS FALSE NEIGHBOUR: 'it returns false'. Refute it at one input. -/
def fnExactComparePlatesWrong : ChangeSpec := { name := "fnExactComparePlates", fn := fun _ => fun
  | [d1, d2] => { results := [.lit (.bool false)], args := [d1, d2] }
  | _ => none }
def FnExactComparePlatesWrongFalsely : Prop := fnExactComparePlatesRow.holds Try.pinned (OpenSpec.ofChange fnExactComparePlatesWrong)

/-- 'laws.FnExactPlotOf': WHATEVER THE INPUT: true; the input reads as it did. -/
def fnExactPlotOfSpec : ChangeSpec := { name := "fnExactPlotOf", fn := fun _ => fun
  | [d1, d2] => { results := [.lit (.bool true)], args := [d1, d2] }
  | _ => none }
def fnExactPlotOfRow : OpenClaim := { program := "ytfoefaniefmgoaa", sum := "e9205868eecbe2b68a338d35a1076f0e8226d6adf5ab49c25f461bb10d4c78b1", func := "loop.example/g01336/laws.FnExactPlotOf", spec := "fnExactPlotOf", apart := false }
def FnExactPlotOfSaid : Prop := fnExactPlotOfRow.holds Try.pinned (OpenSpec.ofChange fnExactPlotOfSpec)

/-- ITS FALSE NEIGHBOUR: 'it returns false'. Refute it at one input. -/
def fnExactPlotOfWrong : ChangeSpec := { name := "fnExactPlotOf", fn := fun _ => fun
  | [d1, d2] => { results := [.lit (.bool false)], args := [d1, d2] }
  | _ => none }
def FnExactPlotOfWrongFalsely : Prop := fnExactPlotOfRow.holds Try.pinned (OpenSpec.ofChange fnExactPlotOfWrong)

/-- 'laws.FnExactLongestFree': WHATEVER THE INPUT: true; the input reads as it did. -/
def fnExactLongestFreeSpec : ChangeSpec := { name := "fnExactLongestFree", fn := fun _ => fun
  | [d] => { results := [.lit (.bool true)], args := [d] }
  | _ => none }
def fnExactLongestFreeRow : OpenClaim := { program := "ytfoefaniefmgoaa", sum := "e9205868eecbe2b68a338d35a1076f0e8226d6adf5ab49c25f461bb10d4c78b1", func := "loop.example/g01336/laws.FnExactLongestFree", spec := "fnExactLongestFree", inPlace := ["internal/bytealg.IndexByteString"], apart := false }
def FnExactLongestFreeSaid : Prop := fnExactLongestFreeRow.holds Try.pinned (OpenSpec.ofChange fnExactLongestFreeSpec)

/-- ITS FALSE NEIGHBOUR: 'it returns false'. Refute it at one input. -/
def fnExactLongestFreeWrong : ChangeSpec := { name := "fnExactLongestFree", fn := fun _ => fun
  | [d] => { results := [.lit (.bool false)], args := [d] }
  | _ => none }
def FnExactLongestFreeWrongFalsely : Prop := fnExactLongestFreeRow.holds Try.pinned (OpenSpec.ofChange fnExactLongestFreeWrong)

/-- 'laws.FnExactArePlates': WHATEVER THE INPUT: true; the input reads as it did. -/
def fnExactArePlatesSpec : ChangeSpec := { name := "fnExactArePlates", fn := fun _ => fun
  | [d] => { results := [.lit (.bool true)], args := [d] }
  | _ => none }
def fnExactArePlatesRow : OpenClaim := { program := "ytfoefaniefmgoaa", sum := "e9205868eecbe2b68a338d35a1076f0e8226d6adf5ab49c25f461bb10d4c78b1", func := "loop.example/g01336/laws.FnExactArePlates", spec := "fnExactArePlates", apart := false }
def FnExactArePlatesSaid : Prop := fnExactArePlatesRow.holds Try.pinned (OpenSpec.ofChange fnExactArePlatesSpec)

/-- ITS FALSE NEIGHBOUR: 'it returns false'. Refute it at one input. -/
def fnExactArePlatesWrong : ChangeSpec := { name := "fnExactArePlates", fn := fun _ => fun
  | [d] => { results := [.lit (.bool false)], args := [d] }
  | _ => none }
def FnExactArePlatesWrongFalsely : Prop := fnExactArePlatesRow.holds Try.pinned (OpenSpec.ofChange fnExactArePlatesWrong)

/-- 'laws.FnExactSideSum': WHATEVER THE INPUT: true; the input reads as it did. -/
def fnExactSideSumSpec : ChangeSpec := { name := "fnExactSideSum", fn := fun _ => fun
  | [d1, d2] => { results := [.lit (.bool true)], args := [d1, d2] }
  | _ => none }
def fnExactSideSumRow : OpenClaim := { program := "ytfoefaniefmgoaa", sum := "e9205868eecbe2b68a338d35a1076f0e8226d6adf5ab49c25f461bb10d4c78b1", func := "loop.example/g01336/laws.FnExactSideSum", spec := "fnExactSideSum", apart := false }
def FnExactSideSumSaid : Prop := fnExactSideSumRow.holds Try.pinned (OpenSpec.ofChange fnExactSideSumSpec)

/-- ITS FALSE NEIGHBOUR: 'it returns false'. Refute it at one input. -/
def fnExactSideSumWrong : ChangeSpec := { name := "fnExactSideSum", fn := fun _ => fun
  | [d1, d2] => { results := [.lit (.bool false)], args := [d1, d2] }
  | _ => none }
def FnExactSideSumWrongFalsely : Prop := fnExactSideSumRow.holds Try.pinned (OpenSpec.ofChange fnExactSideSumWrong)

/-- 'laws.FnExactWalkBetween': WHATEVER THE INPUT: true; the input reads as it did. -/
def fnExactWalkBetweenSpec : ChangeSpec := { name := "fnExactWalkBetween", fn := fun _ => fun
  | [d1, d2, d3, d4] => { results := [.lit (.bool true)], args := [d1, d2, d3, d4] }
  | _ => none }
def fnExactWalkBetweenRow : OpenClaim := { program := "ytfoefaniefmgoaa", sum := "e9205868eecbe2b68a338d35a1076f0e8226d6adf5ab49c25f461bb10d4c78b1", func := "loop.example/g01336/laws.FnExactWalkBetween", spec := "fnExactWalkBetween", apart := false }
def FnExactWalkBetweenSaid : Prop := fnExactWalkBetweenRow.holds Try.pinned (OpenSpec.ofChange fnExactWalkBetweenSpec)

/-- ITS FALSE NEIGHBOUR: 'it returns false'. Refute it at one input. -/
def fnExactWalkBetweenWrong : ChangeSpec := { name := "fnExactWalkBetween", fn := fun _ => fun
  | [d1, d2, d3, d4] => { results := [.lit (.bool false)], args := [d1, d2, d3, d4] }
  | _ => none }
def FnExactWalkBetweenWrongFalsely : Prop := fnExactWalkBetweenRow.holds Try.pinned (OpenSpec.ofChange fnExactWalkBetweenWrong)

/-- 'laws.FnExactOppositeOf': WHATEVER THE INPUT: true; the input reads as it did. -/
def fnExactOppositeOfSpec : ChangeSpec := { name := "fnExactOppositeOf", fn := fun _ => fun
  | [d1, d2] => { results := [.lit (.bool true)], args := [d1, d2] }
  | _ => none }
def fnExactOppositeOfRow : OpenClaim := { program := "ytfoefaniefmgoaa", sum := "e9205868eecbe2b68a338d35a1076f0e8226d6adf5ab49c25f461bb10d4c78b1", func := "loop.example/g01336/laws.FnExactOppositeOf", spec := "fnExactOppositeOf", apart := false }
def FnExactOppositeOfSaid : Prop := fnExactOppositeOfRow.holds Try.pinned (OpenSpec.ofChange fnExactOppositeOfSpec)

/-- ITS FALSE NEIGHBOUR: 'it returns false'. Refute it at one input. -/
def fnExactOppositeOfWrong : ChangeSpec := { name := "fnExactOppositeOf", fn := fun _ => fun
  | [d1, d2] => { results := [.lit (.bool false)], args := [d1, d2] }
  | _ => none }
def FnExactOppositeOfWrongFalsely : Prop := fnExactOppositeOfRow.holds Try.pinned (OpenSpec.ofChange fnExactOppositeOfWrong)

/-- 'laws.FnExactOldPlate': WHATEVER THE INPUT: true; the input reads as it did. -/
def fnExactOldPlateSpec : ChangeSpec := { name := "fnExactOldPlate", fn := fun _ => fun
  | [d1, d2] => { results := [.lit (.bool true)], args := [d1, d2] }
  | _ => none }
def fnExactOldPlateRow : OpenClaim := { program := "ytfoefaniefmgoaa", sum := "e9205868eecbe2b68a338d35a1076f0e8226d6adf5ab49c25f461bb10d4c78b1", func := "loop.example/g01336/laws.FnExactOldPlate", spec := "fnExactOldPlate", apart := false }
def FnExactOldPlateSaid : Prop := fnExactOldPlateRow.holds Try.pinned (OpenSpec.ofChange fnExactOldPlateSpec)

/-- ITS FALSE NEIGHBOUR: 'it returns false'. Refute it at one input. -/
def fnExactOldPlateWrong : ChangeSpec := { name := "fnExactOldPlate", fn := fun _ => fun
  | [d1, d2] => { results := [.lit (.bool false)], args := [d1, d2] }
  | _ => none }
def FnExactOldPlateWrongFalsely : Prop := fnExactOldPlateRow.holds Try.pinned (OpenSpec.ofChange fnExactOldPlateWrong)

/-- 'laws.FnExactPlatesFrom': WHATEVER THE INPUT: true; the input reads as it did. -/
def fnExactPlatesFromSpec : ChangeSpec := { name := "fnExactPlatesFrom", fn := fun _ => fun
  | [d] => { results := [.lit (.bool true)], args := [d] }
  | _ => none }
def fnExactPlatesFromRow : OpenClaim := { program := "ytfoefaniefmgoaa", sum := "e9205868eecbe2b68a338d35a1076f0e8226d6adf5ab49c25f461bb10d4c78b1", func := "loop.example/g01336/laws.FnExactPlatesFrom", spec := "fnExactPlatesFrom", apart := false }
def FnExactPlatesFromSaid : Prop := fnExactPlatesFromRow.holds Try.pinned (OpenSpec.ofChange fnExactPlatesFromSpec)

/-- ITS FALSE NEIGHBOUR: 'it returns false'. Refute it at one input. -/
def fnExactPlatesFromWrong : ChangeSpec := { name := "fnExactPlatesFrom", fn := fun _ => fun
  | [d] => { results := [.lit (.bool false)], args := [d] }
  | _ => none }
def FnExactPlatesFromWrongFalsely : Prop := fnExactPlatesFromRow.holds Try.pinned (OpenSpec.ofChange fnExactPlatesFromWrong)

/-- 'laws.FnExactRangesWithSum': WHATEVER THE INPUT: true; the input reads as it did. -/
def fnExactRangesWithSumSpec : ChangeSpec := { name := "fnExactRangesWithSum", fn := fun _ => fun
  | [d] => { results := [.lit (.bool true)], args := [d] }
  | _ => none }
def fnExactRangesWithSumRow : OpenClaim := { program := "ytfoefaniefmgoaa", sum := "e9205868eecbe2b68a338d35a1076f0e8226d6adf5ab49c25f461bb10d4c78b1", func := "loop.example/g01336/laws.FnExactRangesWithSum", spec := "fnExactRangesWithSum", apart := false }
def FnExactRangesWithSumSaid : Prop := fnExactRangesWithSumRow.holds Try.pinned (OpenSpec.ofChange fnExactRangesWithSumSpec)

/-- ITS FALSE NEIGHBOUR: 'it returns false'. Refute it at one input. -/
def fnExactRangesWithSumWrong : ChangeSpec := { name := "fnExactRangesWithSum", fn := fun _ => fun
  | [d] => { results := [.lit (.bool false)], args := [d] }
  | _ => none }
def FnExactRangesWithSumWrongFalsely : Prop := fnExactRangesWithSumRow.holds Try.pinned (OpenSpec.ofChange fnExactRangesWithSumWrong)

/- THE SECOND FORM. 'bulk': how many values and letters a reading holds, each counted each time it is reached (what is shared counts as often as it is met; a slice's spare places count too). A statement '..UptoSaid' is the law's where the arguments, and the package variables that the reading takes, are together of bulk at most 1048576: NARROWER than '..Said'. Prove '..Said' where nothing that the law and all that it calls make is longer than what came in: it says more and counts as full. Else prove '..UptoSaid'. A law counts once. -/
mutual
def uptoBulk {H : Type} : DataW H → Nat
  | .lit (.string bytes) => bytes.length + 1
  | .lit _ => 1
  | .nil => 1
  | .ptr d => uptoBulk d + 1
  | .slice elems spare => uptoBulkAll elems + uptoBulkAll spare + 1
  | .agg parts => uptoBulkAll parts + 1
  | .iface _ d => uptoBulk d + 1
  | .map entries => uptoBulkEntries entries + 1
  | .held _ => 1
def uptoBulkAll {H : Type} : List (DataW H) → Nat
  | [] => 0
  | d :: r => uptoBulk d + uptoBulkAll r
def uptoBulkEntries {H : Type} : List (Lit × DataW H) → Nat
  | [] => 0
  | x :: r => uptoBulkEntry x + uptoBulkEntries r
def uptoBulkEntry {H : Type} : Lit × DataW H → Nat
  | (.string bytes, d) => bytes.length + uptoBulk d + 1
  | (_, d) => uptoBulk d + 1
 end
def uptoSmall : (H : Type) → List (DataW H) → Bool := fun _ ds => decide (uptoBulkAll ds ≤ 1048576)
def OpenSpec.upto (s : _root_.Go.ChangeSpec) : _root_.Go.OpenSpec := { _root_.Go.OpenSpec.ofChange s with cond := some uptoSmall }

/-- 'laws.FnExactMiddlePlate', WHERE WHAT IT READS IS OF BULK AT MOST 1048576: true; the input reads as it did. -/
def fnExactMiddlePlateUptoRow : OpenClaim := { program := "ytfoefaniefmgoaa", sum := "e9205868eecbe2b68a338d35a1076f0e8226d6adf5ab49c25f461bb10d4c78b1", func := "loop.example/g01336/laws.FnExactMiddlePlate", spec := "fnExactMiddlePlate", apart := false, narrowed := true }
def FnExactMiddlePlateUptoSaid : Prop := fnExactMiddlePlateUptoRow.holds Try.pinned (OpenSpec.upto fnExactMiddlePlateSpec)

/-- 'laws.FnExactBackDeliveries', WHERE WHAT IT READS IS OF BULK AT MOST 1048576: true; the input reads as it did. -/
def fnExactBackDeliveriesUptoRow : OpenClaim := { program := "ytfoefaniefmgoaa", sum := "e9205868eecbe2b68a338d35a1076f0e8226d6adf5ab49c25f461bb10d4c78b1", func := "loop.example/g01336/laws.FnExactBackDeliveries", spec := "fnExactBackDeliveries", inPlace := ["internal/bytealg.IndexByteString"], apart := false, narrowed := true }
def FnExactBackDeliveriesUptoSaid : Prop := fnExactBackDeliveriesUptoRow.holds Try.pinned (OpenSpec.upto fnExactBackDeliveriesSpec)

/-- 'laws.FnExactComparePlates', WHERE WHAT IT READS IS OF BULK AT MOST 1048576: true; the input reads as it did. -/
def fnExactComparePlatesUptoRow : OpenClaim := { program := "ytfoefaniefmgoaa", sum := "e9205868eecbe2b68a338d35a1076f0e8226d6adf5ab49c25f461bb10d4c78b1", func := "loop.example/g01336/laws.FnExactComparePlates", spec := "fnExactComparePlates", apart := false, narrowed := true }
def FnExactComparePlatesUptoSaid : Prop := fnExactComparePlatesUptoRow.holds Try.pinned (OpenSpec.upto fnExactComparePlatesSpec)

/-- 'laws.FnExactPlotOf', WHERE WHAT IT READS IS OF BULK AT MOST 1048576: true; the input reads as it did. -/
def fnExactPlotOfUptoRow : OpenClaim := { program := "ytfoefaniefmgoaa", sum := "e9205868eecbe2b68a338d35a1076f0e8226d6adf5ab49c25f461bb10d4c78b1", func := "loop.example/g01336/laws.FnExactPlotOf", spec := "fnExactPlotOf", apart := false, narrowed := true }
def FnExactPlotOfUptoSaid : Prop := fnExactPlotOfUptoRow.holds Try.pinned (OpenSpec.upto fnExactPlotOfSpec)

/-- 'laws.FnExactLongestFree', WHERE WHAT IT READS IS OF BULK AT MOST 1048576: true; the input reads as it did. -/
def fnExactLongestFreeUptoRow : OpenClaim := { program := "ytfoefaniefmgoaa", sum := "e9205868eecbe2b68a338d35a1076f0e8226d6adf5ab49c25f461bb10d4c78b1", func := "loop.example/g01336/laws.FnExactLongestFree", spec := "fnExactLongestFree", inPlace := ["internal/bytealg.IndexByteString"], apart := false, narrowed := true }
def FnExactLongestFreeUptoSaid : Prop := fnExactLongestFreeUptoRow.holds Try.pinned (OpenSpec.upto fnExactLongestFreeSpec)

/-- 'laws.FnExactArePlates', WHERE WHAT IT READS IS OF BULK AT MOST 1048576: true; the input reads as it did. -/
def fnExactArePlatesUptoRow : OpenClaim := { program := "ytfoefaniefmgoaa", sum := "e9205868eecbe2b68a338d35a1076f0e8226d6adf5ab49c25f461bb10d4c78b1", func := "loop.example/g01336/laws.FnExactArePlates", spec := "fnExactArePlates", apart := false, narrowed := true }
def FnExactArePlatesUptoSaid : Prop := fnExactArePlatesUptoRow.holds Try.pinned (OpenSpec.upto fnExactArePlatesSpec)

/-- 'laws.FnExactSideSum', WHERE WHAT IT READS IS OF BULK AT MOST 1048576: true; the input reads as it did. -/
def fnExactSideSumUptoRow : OpenClaim := { program := "ytfoefaniefmgoaa", sum := "e9205868eecbe2b68a338d35a1076f0e8226d6adf5ab49c25f461bb10d4c78b1", func := "loop.example/g01336/laws.FnExactSideSum", spec := "fnExactSideSum", apart := false, narrowed := true }
def FnExactSideSumUptoSaid : Prop := fnExactSideSumUptoRow.holds Try.pinned (OpenSpec.upto fnExactSideSumSpec)

/-- 'laws.FnExactWalkBetween', WHERE WHAT IT READS IS OF BULK AT MOST 1048576: true; the input reads as it did. -/
def fnExactWalkBetweenUptoRow : OpenClaim := { program := "ytfoefaniefmgoaa", sum := "e9205868eecbe2b68a338d35a1076f0e8226d6adf5ab49c25f461bb10d4c78b1", func := "loop.example/g01336/laws.FnExactWalkBetween", spec := "fnExactWalkBetween", apart := false, narrowed := true }
def FnExactWalkBetweenUptoSaid : Prop := fnExactWalkBetweenUptoRow.holds Try.pinned (OpenSpec.upto fnExactWalkBetweenSpec)

/-- 'laws.FnExactOppositeOf', WHERE WHAT IT READS IS OF BULK AT MOST 1048576: true; the input reads as it did. -/
def fnExactOppositeOfUptoRow : OpenClaim := { program := "ytfoefaniefmgoaa", sum := "e9205868eecbe2b68a338d35a1076f0e8226d6adf5ab49c25f461bb10d4c78b1", func := "loop.example/g01336/laws.FnExactOppositeOf", spec := "fnExactOppositeOf", apart := false, narrowed := true }
def FnExactOppositeOfUptoSaid : Prop := fnExactOppositeOfUptoRow.holds Try.pinned (OpenSpec.upto fnExactOppositeOfSpec)

/-- 'laws.FnExactOldPlate', WHERE WHAT IT READS IS OF BULK AT MOST 1048576: true; the input reads as it did. -/
def fnExactOldPlateUptoRow : OpenClaim := { program := "ytfoefaniefmgoaa", sum := "e9205868eecbe2b68a338d35a1076f0e8226d6adf5ab49c25f461bb10d4c78b1", func := "loop.example/g01336/laws.FnExactOldPlate", spec := "fnExactOldPlate", apart := false, narrowed := true }
def FnExactOldPlateUptoSaid : Prop := fnExactOldPlateUptoRow.holds Try.pinned (OpenSpec.upto fnExactOldPlateSpec)

/-- 'laws.FnExactPlatesFrom', WHERE WHAT IT READS IS OF BULK AT MOST 1048576: true; the input reads as it did. -/
def fnExactPlatesFromUptoRow : OpenClaim := { program := "ytfoefaniefmgoaa", sum := "e9205868eecbe2b68a338d35a1076f0e8226d6adf5ab49c25f461bb10d4c78b1", func := "loop.example/g01336/laws.FnExactPlatesFrom", spec := "fnExactPlatesFrom", apart := false, narrowed := true }
def FnExactPlatesFromUptoSaid : Prop := fnExactPlatesFromUptoRow.holds Try.pinned (OpenSpec.upto fnExactPlatesFromSpec)

/-- 'laws.FnExactRangesWithSum', WHERE WHAT IT READS IS OF BULK AT MOST 1048576: true; the input reads as it did. -/
def fnExactRangesWithSumUptoRow : OpenClaim := { program := "ytfoefaniefmgoaa", sum := "e9205868eecbe2b68a338d35a1076f0e8226d6adf5ab49c25f461bb10d4c78b1", func := "loop.example/g01336/laws.FnExactRangesWithSum", spec := "fnExactRangesWithSum", apart := false, narrowed := true }
def FnExactRangesWithSumUptoSaid : Prop := fnExactRangesWithSumUptoRow.holds Try.pinned (OpenSpec.upto fnExactRangesWithSumSpec)

end Rows
end Go.Proofs.Ytfoefaniefmgoaa
