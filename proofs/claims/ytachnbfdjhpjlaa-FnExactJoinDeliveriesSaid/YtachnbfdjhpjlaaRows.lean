/-
  No cell of these rows narrows 'for every input' (looked for: loops, veiled, ifaces, maps, wideKeys, modest, calm, conditions, laid).
  DERIVED. THE GIVEN ROWS OF THIS SEAT. 12 by the template 'for every input the law returns true; each argument reads behind the call as it read before'; 0 by the template 'total and deterministic' (their statements: YtachnbfdjhpjlaaTotals.lean).
  GIVEN WITH THE SEED: the statements are not yours to turn. If you find one false, say at which input.
  Laid BY PROGRAM, IN A SANDBOX (cutbox-rows.mjs): the forced cells as the released guide's own fill.sh prints them over the translation afed59b5bb23ab5c… (all of the seat's roots in one cut). By AI agents, Wed Nov 11 2026. No macro, syntax, notation, axiom, sorry.
-/
import Derived.Test.YtachnbfdjhpjlaaChecked
import GoSem.Claim
import GoSem.ClaimJoined
import GoSem.ClaimMapViews
import Derived.JoinedTies
import Derived.KernelRfl
namespace Go.Proofs.Ytachnbfdjhpjlaa
/- THE CELL 'sum', in the pinned program and in every row, IS THE sha256 OF THE DUMP (.gsa) THAT YtachnbfdjhpjlaaProg.lean LOADS. Nothing in Lean hashes anything: it is a label: what it is worth is what the hold of that sum in a sandbox is worth. -/
noncomputable def Try.pinned : Pinned := { name := "ytachnbfdjhpjlaa", sum := "afed59b5bb23ab5cae5c213b148da32976a3353905f2f155f85d206dc82960db", checked := Try.checked }
namespace Rows
def none {H : Type} : Left H := { results := [], args := [] }

/-- 'laws.FnExactConstants': WHATEVER THE INPUT: true; the input reads as it did. -/
def fnExactConstantsSpec : ChangeSpec := { name := "fnExactConstants", fn := fun _ => fun
  | [] => { results := [.lit (.bool true)], args := [] }
  | _ => none }
def fnExactConstantsRow : OpenClaim := { program := "ytachnbfdjhpjlaa", sum := "afed59b5bb23ab5cae5c213b148da32976a3353905f2f155f85d206dc82960db", func := "loop.example/g01336/laws.FnExactConstants", spec := "fnExactConstants", apart := false }
def FnExactConstantsSaid : Prop := fnExactConstantsRow.holds Try.pinned (OpenSpec.ofChange fnExactConstantsSpec)

/-- ITS FALSE NEIGHBOUR: 'it returns false'. Refute it at one input. -/
def fnExactConstantsWrong : ChangeSpec := { name := "fnExactConstants", fn := fun _ => fun
  | [] => { results := [.lit (.bool false)], args := [] }
  | _ => none }
def FnExactConstantsWrongFalsely : Prop := fnExactConstantsRow.holds Try.pinned (OpenSpec.ofChange fnExactConstantsWrong)

/-- 'laws.FnExactIsPlate': WHATEVER THE INPUT: true; the input reads as it did. -/
def fnExactIsPlateSpec : ChangeSpec := { name := "fnExactIsPlate", fn := fun _ => fun
  | [d] => { results := [.lit (.bool true)], args := [d] }
  | _ => none }
def fnExactIsPlateRow : OpenClaim := { program := "ytachnbfdjhpjlaa", sum := "afed59b5bb23ab5cae5c213b148da32976a3353905f2f155f85d206dc82960db", func := "loop.example/g01336/laws.FnExactIsPlate", spec := "fnExactIsPlate", apart := false }
def FnExactIsPlateSaid : Prop := fnExactIsPlateRow.holds Try.pinned (OpenSpec.ofChange fnExactIsPlateSpec)

/-- ITS FALSE NEIGHBOUR: 'it returns false'. Refute it at one input. -/
def fnExactIsPlateWrong : ChangeSpec := { name := "fnExactIsPlate", fn := fun _ => fun
  | [d] => { results := [.lit (.bool false)], args := [d] }
  | _ => none }
def FnExactIsPlateWrongFalsely : Prop := fnExactIsPlateRow.holds Try.pinned (OpenSpec.ofChange fnExactIsPlateWrong)

/-- 'laws.FnExactIsStreet': WHATEVER THE INPUT: true; the input reads as it did. -/
def fnExactIsStreetSpec : ChangeSpec := { name := "fnExactIsStreet", fn := fun _ => fun
  | [d] => { results := [.lit (.bool true)], args := [d] }
  | _ => none }
def fnExactIsStreetRow : OpenClaim := { program := "ytachnbfdjhpjlaa", sum := "afed59b5bb23ab5cae5c213b148da32976a3353905f2f155f85d206dc82960db", func := "loop.example/g01336/laws.FnExactIsStreet", spec := "fnExactIsStreet", apart := false }
def FnExactIsStreetSaid : Prop := fnExactIsStreetRow.holds Try.pinned (OpenSpec.ofChange fnExactIsStreetSpec)

/-- ITS FALSE NEIGHBOUR: 'it returns false'. Refute it at one input. -/
def fnExactIsStreetWrong : ChangeSpec := { name := "fnExactIsStreet", fn := fun _ => fun
  | [d] => { results := [.lit (.bool false)], args := [d] }
  | _ => none }
def FnExactIsStreetWrongFalsely : Prop := fnExactIsStreetRow.holds Try.pinned (OpenSpec.ofChange fnExactIsStreetWrong)

/-- 'laws.FnExactSumBetween': WHATEVER THE INPUT: true; the input reads as it did. -/
def fnExactSumBetweenSpec : ChangeSpec := { name := "fnExactSumBetween", fn := fun _ => fun
  | [d1, d2] => { results := [.lit (.bool true)], args := [d1, d2] }
  | _ => none }
def fnExactSumBetweenRow : OpenClaim := { program := "ytachnbfdjhpjlaa", sum := "afed59b5bb23ab5cae5c213b148da32976a3353905f2f155f85d206dc82960db", func := "loop.example/g01336/laws.FnExactSumBetween", spec := "fnExactSumBetween", apart := false }
def FnExactSumBetweenSaid : Prop := fnExactSumBetweenRow.holds Try.pinned (OpenSpec.ofChange fnExactSumBetweenSpec)

/-- ITS FALSE NEIGHBOUR: 'it returns false'. Refute it at one input. -/
def fnExactSumBetweenWrong : ChangeSpec := { name := "fnExactSumBetween", fn := fun _ => fun
  | [d1, d2] => { results := [.lit (.bool false)], args := [d1, d2] }
  | _ => none }
def FnExactSumBetweenWrongFalsely : Prop := fnExactSumBetweenRow.holds Try.pinned (OpenSpec.ofChange fnExactSumBetweenWrong)

/-- 'laws.FnExactCountBetween': WHATEVER THE INPUT: true; the input reads as it did. -/
def fnExactCountBetweenSpec : ChangeSpec := { name := "fnExactCountBetween", fn := fun _ => fun
  | [d1, d2] => { results := [.lit (.bool true)], args := [d1, d2] }
  | _ => none }
def fnExactCountBetweenRow : OpenClaim := { program := "ytachnbfdjhpjlaa", sum := "afed59b5bb23ab5cae5c213b148da32976a3353905f2f155f85d206dc82960db", func := "loop.example/g01336/laws.FnExactCountBetween", spec := "fnExactCountBetween", apart := false }
def FnExactCountBetweenSaid : Prop := fnExactCountBetweenRow.holds Try.pinned (OpenSpec.ofChange fnExactCountBetweenSpec)

/-- ITS FALSE NEIGHBOUR: 'it returns false'. Refute it at one input. -/
def fnExactCountBetweenWrong : ChangeSpec := { name := "fnExactCountBetween", fn := fun _ => fun
  | [d1, d2] => { results := [.lit (.bool false)], args := [d1, d2] }
  | _ => none }
def FnExactCountBetweenWrongFalsely : Prop := fnExactCountBetweenRow.holds Try.pinned (OpenSpec.ofChange fnExactCountBetweenWrong)

/-- 'laws.FnExactAreDeliveries': WHATEVER THE INPUT: true; the input reads as it did. -/
def fnExactAreDeliveriesSpec : ChangeSpec := { name := "fnExactAreDeliveries", fn := fun _ => fun
  | [d] => { results := [.lit (.bool true)], args := [d] }
  | _ => none }
def fnExactAreDeliveriesRow : OpenClaim := { program := "ytachnbfdjhpjlaa", sum := "afed59b5bb23ab5cae5c213b148da32976a3353905f2f155f85d206dc82960db", func := "loop.example/g01336/laws.FnExactAreDeliveries", spec := "fnExactAreDeliveries", inPlace := ["internal/bytealg.IndexByteString"], apart := false }
def FnExactAreDeliveriesSaid : Prop := fnExactAreDeliveriesRow.holds Try.pinned (OpenSpec.ofChange fnExactAreDeliveriesSpec)

/-- ITS FALSE NEIGHBOUR: 'it returns false'. Refute it at one input. -/
def fnExactAreDeliveriesWrong : ChangeSpec := { name := "fnExactAreDeliveries", fn := fun _ => fun
  | [d] => { results := [.lit (.bool false)], args := [d] }
  | _ => none }
def FnExactAreDeliveriesWrongFalsely : Prop := fnExactAreDeliveriesRow.holds Try.pinned (OpenSpec.ofChange fnExactAreDeliveriesWrong)

/-- 'laws.FnExactDigitsOnPlates': WHATEVER THE INPUT: true; the input reads as it did. -/
def fnExactDigitsOnPlatesSpec : ChangeSpec := { name := "fnExactDigitsOnPlates", fn := fun _ => fun
  | [d] => { results := [.lit (.bool true)], args := [d] }
  | _ => none }
def fnExactDigitsOnPlatesRow : OpenClaim := { program := "ytachnbfdjhpjlaa", sum := "afed59b5bb23ab5cae5c213b148da32976a3353905f2f155f85d206dc82960db", func := "loop.example/g01336/laws.FnExactDigitsOnPlates", spec := "fnExactDigitsOnPlates", recurses := true, apart := false }
def FnExactDigitsOnPlatesSaid : Prop := fnExactDigitsOnPlatesRow.holds Try.pinned (OpenSpec.ofChange fnExactDigitsOnPlatesSpec)

/-- ITS FALSE NEIGHBOUR: 'it returns false'. Refute it at one input. -/
def fnExactDigitsOnPlatesWrong : ChangeSpec := { name := "fnExactDigitsOnPlates", fn := fun _ => fun
  | [d] => { results := [.lit (.bool false)], args := [d] }
  | _ => none }
def FnExactDigitsOnPlatesWrongFalsely : Prop := fnExactDigitsOnPlatesRow.holds Try.pinned (OpenSpec.ofChange fnExactDigitsOnPlatesWrong)

/-- 'laws.FnExactHousesOf': WHATEVER THE INPUT: true; the input reads as it did. -/
def fnExactHousesOfSpec : ChangeSpec := { name := "fnExactHousesOf", fn := fun _ => fun
  | [d] => { results := [.lit (.bool true)], args := [d] }
  | _ => none }
def fnExactHousesOfRow : OpenClaim := { program := "ytachnbfdjhpjlaa", sum := "afed59b5bb23ab5cae5c213b148da32976a3353905f2f155f85d206dc82960db", func := "loop.example/g01336/laws.FnExactHousesOf", spec := "fnExactHousesOf", apart := false }
def FnExactHousesOfSaid : Prop := fnExactHousesOfRow.holds Try.pinned (OpenSpec.ofChange fnExactHousesOfSpec)

/-- ITS FALSE NEIGHBOUR: 'it returns false'. Refute it at one input. -/
def fnExactHousesOfWrong : ChangeSpec := { name := "fnExactHousesOf", fn := fun _ => fun
  | [d] => { results := [.lit (.bool false)], args := [d] }
  | _ => none }
def FnExactHousesOfWrongFalsely : Prop := fnExactHousesOfRow.holds Try.pinned (OpenSpec.ofChange fnExactHousesOfWrong)

/-- 'laws.FnExactNextPlate': WHATEVER THE INPUT: true; the input reads as it did. -/
def fnExactNextPlateSpec : ChangeSpec := { name := "fnExactNextPlate", fn := fun _ => fun
  | [d] => { results := [.lit (.bool true)], args := [d] }
  | _ => none }
def fnExactNextPlateRow : OpenClaim := { program := "ytachnbfdjhpjlaa", sum := "afed59b5bb23ab5cae5c213b148da32976a3353905f2f155f85d206dc82960db", func := "loop.example/g01336/laws.FnExactNextPlate", spec := "fnExactNextPlate", apart := false }
def FnExactNextPlateSaid : Prop := fnExactNextPlateRow.holds Try.pinned (OpenSpec.ofChange fnExactNextPlateSpec)

/-- ITS FALSE NEIGHBOUR: 'it returns false'. Refute it at one input. -/
def fnExactNextPlateWrong : ChangeSpec := { name := "fnExactNextPlate", fn := fun _ => fun
  | [d] => { results := [.lit (.bool false)], args := [d] }
  | _ => none }
def FnExactNextPlateWrongFalsely : Prop := fnExactNextPlateRow.holds Try.pinned (OpenSpec.ofChange fnExactNextPlateWrong)

/-- 'laws.FnExactCountDigit': WHATEVER THE INPUT: true; the input reads as it did. -/
def fnExactCountDigitSpec : ChangeSpec := { name := "fnExactCountDigit", fn := fun _ => fun
  | [d1, d2] => { results := [.lit (.bool true)], args := [d1, d2] }
  | _ => none }
def fnExactCountDigitRow : OpenClaim := { program := "ytachnbfdjhpjlaa", sum := "afed59b5bb23ab5cae5c213b148da32976a3353905f2f155f85d206dc82960db", func := "loop.example/g01336/laws.FnExactCountDigit", spec := "fnExactCountDigit", apart := false }
def FnExactCountDigitSaid : Prop := fnExactCountDigitRow.holds Try.pinned (OpenSpec.ofChange fnExactCountDigitSpec)

/-- ITS FALSE NEIGHBOUR: 'it returns false'. Refute it at one input. -/
def fnExactCountDigitWrong : ChangeSpec := { name := "fnExactCountDigit", fn := fun _ => fun
  | [d1, d2] => { results := [.lit (.bool false)], args := [d1, d2] }
  | _ => none }
def FnExactCountDigitWrongFalsely : Prop := fnExactCountDigitRow.holds Try.pinned (OpenSpec.ofChange fnExactCountDigitWrong)

/-- 'laws.FnExactJoinDeliveries': WHATEVER THE INPUT: true; the input reads as it did. -/
def fnExactJoinDeliveriesSpec : ChangeSpec := { name := "fnExactJoinDeliveries", fn := fun _ => fun
  | [d1, d2] => { results := [.lit (.bool true)], args := [d1, d2] }
  | _ => none }
def fnExactJoinDeliveriesRow : OpenClaim := { program := "ytachnbfdjhpjlaa", sum := "afed59b5bb23ab5cae5c213b148da32976a3353905f2f155f85d206dc82960db", func := "loop.example/g01336/laws.FnExactJoinDeliveries", spec := "fnExactJoinDeliveries", inPlace := ["internal/bytealg.IndexByteString"], apart := false }
def FnExactJoinDeliveriesSaid : Prop := fnExactJoinDeliveriesRow.holds Try.pinned (OpenSpec.ofChange fnExactJoinDeliveriesSpec)

/-- ITS FALSE NEIGHBOUR: 'it returns false'. Refute it at one input. -/
def fnExactJoinDeliveriesWrong : ChangeSpec := { name := "fnExactJoinDeliveries", fn := fun _ => fun
  | [d1, d2] => { results := [.lit (.bool false)], args := [d1, d2] }
  | _ => none }
def FnExactJoinDeliveriesWrongFalsely : Prop := fnExactJoinDeliveriesRow.holds Try.pinned (OpenSpec.ofChange fnExactJoinDeliveriesWrong)

/-- 'laws.FnExactNumberAt': WHATEVER THE INPUT: true; the input reads as it did. -/
def fnExactNumberAtSpec : ChangeSpec := { name := "fnExactNumberAt", fn := fun _ => fun
  | [d1, d2, d3] => { results := [.lit (.bool true)], args := [d1, d2, d3] }
  | _ => none }
def fnExactNumberAtRow : OpenClaim := { program := "ytachnbfdjhpjlaa", sum := "afed59b5bb23ab5cae5c213b148da32976a3353905f2f155f85d206dc82960db", func := "loop.example/g01336/laws.FnExactNumberAt", spec := "fnExactNumberAt", apart := false }
def FnExactNumberAtSaid : Prop := fnExactNumberAtRow.holds Try.pinned (OpenSpec.ofChange fnExactNumberAtSpec)

/-- ITS FALSE NEIGHBOUR: 'it returns false'. Refute it at one input. -/
def fnExactNumberAtWrong : ChangeSpec := { name := "fnExactNumberAt", fn := fun _ => fun
  | [d1, d2, d3] => { results := [.lit (.bool false)], args := [d1, d2, d3] }
  | _ => none }
def FnExactNumberAtWrongFalsely : Prop := fnExactNumberAtRow.holds Try.pinned (OpenSpec.ofChange fnExactNumberAtWrong)

/- THE SECOND FORM. 'bulk': how many values and letters a reading holds, each counted each time it is reached (what is shared counts as often as it is met; a slice's spare places count too). A statement '..UptoSaid' is the law's where the arguments, and the package variables that the reading takes, are together of bulk at most 1048576: NARROWER than '..Said'. Prove '..Said' where nothing that the law and all that it calls make is longer than what came in: it says more and counts as full. Else prove '..UptoSaid'. A law counts once. -/
mutual
def uptoBulk {H : Type} : DataW H → Nat
  | .lit (.string bytes) => bytes.length + 1
  | .lit _ => 1
  | .nil => 1
  | .ptr d => uptoBulk d + 1
  | .slice elems spare => uptoBulkAll elems + uptoBulkAll spare + 1
  | .agg parts => uptoBulkAll parts + 1
  | .iface _ d => uptoBulk d + 1
  | .map entries => uptoBulkEntries entries + 1
  | .held _ => 1
def uptoBulkAll {H : Type} : List (DataW H) → Nat
  | [] => 0
  | d :: r => uptoBulk d + uptoBulkAll r
def uptoBulkEntries {H : Type} : List (Lit × DataW H) → Nat
  | [] => 0
  | x :: r => uptoBulkEntry x + uptoBulkEntries r
def uptoBulkEntry {H : Type} : Lit × DataW H → Nat
  | (.string bytes, d) => bytes.length + uptoBulk d + 1
  | (_, d) => uptoBulk d + 1
 end
def uptoSmall : (H : Type) → List (DataW H) → Bool := fun _ ds => decide (uptoBulkAll ds ≤ 1048576)
def OpenSpec.upto (s : _root_.Go.ChangeSpec) : _root_.Go.OpenSpec := { _root_.Go.OpenSpec.ofChange s with cond := some uptoSmall }

/-- 'laws.FnExactConstants', WHERE WHAT IT READS IS OF BULK AT MOST 1048576: true; the input reads as it did. -/
def fnExactConstantsUptoRow : OpenClaim := { program := "ytachnbfdjhpjlaa", sum := "afed59b5bb23ab5cae5c213b148da32976a3353905f2f155f85d206dc82960db", func := "loop.example/g01336/laws.FnExactConstants", spec := "fnExactConstants", apart := false, narrowed := true }
def FnExactConstantsUptoSaid : Prop := fnExactConstantsUptoRow.holds Try.pinned (OpenSpec.upto fnExactConstantsSpec)

/-- 'laws.FnExactIsPlate', WHERE WHAT IT READS IS OF BULK AT MOST 1048576: true; the input reads as it did. -/
def fnExactIsPlateUptoRow : OpenClaim := { program := "ytachnbfdjhpjlaa", sum := "afed59b5bb23ab5cae5c213b148da32976a3353905f2f155f85d206dc82960db", func := "loop.example/g01336/laws.FnExactIsPlate", spec := "fnExactIsPlate", apart := false, narrowed := true }
def FnExactIsPlateUptoSaid : Prop := fnExactIsPlateUptoRow.holds Try.pinned (OpenSpec.upto fnExactIsPlateSpec)

/-- 'laws.FnExactIsStreet', WHERE WHAT IT READS IS OF BULK AT MOST 1048576: true; the input reads as it did. -/
def fnExactIsStreetUptoRow : OpenClaim := { program := "ytachnbfdjhpjlaa", sum := "afed59b5bb23ab5cae5c213b148da32976a3353905f2f155f85d206dc82960db", func := "loop.example/g01336/laws.FnExactIsStreet", spec := "fnExactIsStreet", apart := false, narrowed := true }
def FnExactIsStreetUptoSaid : Prop := fnExactIsStreetUptoRow.holds Try.pinned (OpenSpec.upto fnExactIsStreetSpec)

/-- 'laws.FnExactSumBetween', WHERE WHAT IT READS IS OF BULK AT MOST 1048576: true; the input reads as it did. -/
def fnExactSumBetweenUptoRow : OpenClaim := { program := "ytachnbfdjhpjlaa", sum := "afed59b5bb23ab5cae5c213b148da32976a3353905f2f155f85d206dc82960db", func := "loop.example/g01336/laws.FnExactSumBetween", spec := "fnExactSumBetween", apart := false, narrowed := true }
def FnExactSumBetweenUptoSaid : Prop := fnExactSumBetweenUptoRow.holds Try.pinned (OpenSpec.upto fnExactSumBetweenSpec)

/-- 'laws.FnExactCountBetween', WHERE WHAT IT READS IS OF BULK AT MOST 1048576: true; the input reads as it did. -/
def fnExactCountBetweenUptoRow : OpenClaim := { program := "ytachnbfdjhpjlaa", sum := "afed59b5bb23ab5cae5c213b148da32976a3353905f2f155f85d206dc82960db", func := "loop.example/g01336/laws.FnExactCountBetween", spec := "fnExactCountBetween", apart := false, narrowed := true }
def FnExactCountBetweenUptoSaid : Prop := fnExactCountBetweenUptoRow.holds Try.pinned (OpenSpec.upto fnExactCountBetweenSpec)

/-- 'laws.FnExactAreDeliveries', WHERE WHAT IT READS IS OF BULK AT MOST 1048576: true; the input reads as it did. -/
def fnExactAreDeliveriesUptoRow : OpenClaim := { program := "ytachnbfdjhpjlaa", sum := "afed59b5bb23ab5cae5c213b148da32976a3353905f2f155f85d206dc82960db", func := "loop.example/g01336/laws.FnExactAreDeliveries", spec := "fnExactAreDeliveries", inPlace := ["internal/bytealg.IndexByteString"], apart := false, narrowed := true }
def FnExactAreDeliveriesUptoSaid : Prop := fnExactAreDeliveriesUptoRow.holds Try.pinned (OpenSpec.upto fnExactAreDeliveriesSpec)

/-- 'laws.FnExactDigitsOnPlates', WHERE WHAT IT READS IS OF BULK AT MOST 1048576: true; the input reads as it did. -/
def fnExactDigitsOnPlatesUptoRow : OpenClaim := { program := "ytachnbfdjhpjlaa", sum := "afed59b5bb23ab5cae5c213b148da32976a3353905f2f155f85d206dc82960db", func := "loop.example/g01336/laws.FnExactDigitsOnPlates", spec := "fnExactDigitsOnPlates", recurses := true, apart := false, narrowed := true }
def FnExactDigitsOnPlatesUptoSaid : Prop := fnExactDigitsOnPlatesUptoRow.holds Try.pinned (OpenSpec.upto fnExactDigitsOnPlatesSpec)

/-- 'laws.FnExactHousesOf', WHERE WHAT IT READS IS OF BULK AT MOST 1048576: true; the input reads as it did. -/
def fnExactHousesOfUptoRow : OpenClaim := { program := "ytachnbfdjhpjlaa", sum := "afed59b5bb23ab5cae5c213b148da32976a3353905f2f155f85d206dc82960db", func := "loop.example/g01336/laws.FnExactHousesOf", spec := "fnExactHousesOf", apart := false, narrowed := true }
def FnExactHousesOfUptoSaid : Prop := fnExactHousesOfUptoRow.holds Try.pinned (OpenSpec.upto fnExactHousesOfSpec)

/-- 'laws.FnExactNextPlate', WHERE WHAT IT READS IS OF BULK AT MOST 1048576: true; the input reads as it did. -/
def fnExactNextPlateUptoRow : OpenClaim := { program := "ytachnbfdjhpjlaa", sum := "afed59b5bb23ab5cae5c213b148da32976a3353905f2f155f85d206dc82960db", func := "loop.example/g01336/laws.FnExactNextPlate", spec := "fnExactNextPlate", apart := false, narrowed := true }
def FnExactNextPlateUptoSaid : Prop := fnExactNextPlateUptoRow.holds Try.pinned (OpenSpec.upto fnExactNextPlateSpec)

/-- 'laws.FnExactCountDigit', WHERE WHAT IT READS IS OF BULK AT MOST 1048576: true; the input reads as it did. -/
def fnExactCountDigitUptoRow : OpenClaim := { program := "ytachnbfdjhpjlaa", sum := "afed59b5bb23ab5cae5c213b148da32976a3353905f2f155f85d206dc82960db", func := "loop.example/g01336/laws.FnExactCountDigit", spec := "fnExactCountDigit", apart := false, narrowed := true }
def FnExactCountDigitUptoSaid : Prop := fnExactCountDigitUptoRow.holds Try.pinned (OpenSpec.upto fnExactCountDigitSpec)

/-- 'laws.FnExactJoinDeliveries', WHERE WHAT IT READS IS OF BULK AT MOST 1048576: true; the input reads as it did. -/
def fnExactJoinDeliveriesUptoRow : OpenClaim := { program := "ytachnbfdjhpjlaa", sum := "afed59b5bb23ab5cae5c213b148da32976a3353905f2f155f85d206dc82960db", func := "loop.example/g01336/laws.FnExactJoinDeliveries", spec := "fnExactJoinDeliveries", inPlace := ["internal/bytealg.IndexByteString"], apart := false, narrowed := true }
def FnExactJoinDeliveriesUptoSaid : Prop := fnExactJoinDeliveriesUptoRow.holds Try.pinned (OpenSpec.upto fnExactJoinDeliveriesSpec)

/-- 'laws.FnExactNumberAt', WHERE WHAT IT READS IS OF BULK AT MOST 1048576: true; the input reads as it did. -/
def fnExactNumberAtUptoRow : OpenClaim := { program := "ytachnbfdjhpjlaa", sum := "afed59b5bb23ab5cae5c213b148da32976a3353905f2f155f85d206dc82960db", func := "loop.example/g01336/laws.FnExactNumberAt", spec := "fnExactNumberAt", apart := false, narrowed := true }
def FnExactNumberAtUptoSaid : Prop := fnExactNumberAtUptoRow.holds Try.pinned (OpenSpec.upto fnExactNumberAtSpec)

end Rows
end Go.Proofs.Ytachnbfdjhpjlaa
