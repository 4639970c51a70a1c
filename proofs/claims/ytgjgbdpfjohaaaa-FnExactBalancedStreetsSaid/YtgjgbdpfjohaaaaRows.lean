/-
  No cell of these rows narrows 'for every input' (looked for: loops, veiled, ifaces, maps, wideKeys, modest, calm, conditions, laid).
  DERIVED. THE GIVEN ROWS OF THIS SEAT. 11 by the template 'for every input the law returns true; each argument reads behind the call as it read before'; 0 by the template 'total and deterministic' (their statements: YtgjgbdpfjohaaaaTotals.lean).
  GIVEN WITH THE SEED: the statements are not yours to turn. If you find one false, say at which input.
  Laid BY PROGRAM, IN A SANDBOX (cutbox-rows.mjs): the forced cells as the released guide's own fill.sh prints them over the translation 91b758bf726b7623… (all of the seat's roots in one cut). By AI agents, Wed Nov 11 2026. No macro, syntax, notation, axiom, sorry.
-/
import Derived.Test.YtgjgbdpfjohaaaaChecked
import GoSem.Claim
import GoSem.ClaimJoined
import GoSem.ClaimMapViews
import Derived.JoinedTies
import Derived.KernelRfl
namespace Go.Proofs.Ytgjgbdpfjohaaaa
/- THE CELL 'sum', in the pinned program and in every row, IS THE sha256 OF THE DUMP (.gsa) THAT YtgjgbdpfjohaaaaProg.lean LOADS. Nothing in Lean hashes anything: it is a label: what it is worth is what the hold of that sum in a sandbox is worth. -/
noncomputable def Try.pinned : Pinned := { name := "ytgjgbdpfjohaaaa", sum := "91b758bf726b76236011a08d8f7881fef661aa218048563a6a2c4ca52cd01bda", checked := Try.checked }
namespace Rows
def none {H : Type} : Left H := { results := [], args := [] }

/-- 'laws.FnExactSideNumbers': WHATEVER THE INPUT: true; the input reads as it did. -/
def fnExactSideNumbersSpec : ChangeSpec := { name := "fnExactSideNumbers", fn := fun _ => fun
  | [d1, d2] => { results := [.lit (.bool true)], args := [d1, d2] }
  | _ => none }
def fnExactSideNumbersRow : OpenClaim := { program := "ytgjgbdpfjohaaaa", sum := "91b758bf726b76236011a08d8f7881fef661aa218048563a6a2c4ca52cd01bda", func := "loop.example/g01336/laws.FnExactSideNumbers", spec := "fnExactSideNumbers", apart := false }
def FnExactSideNumbersSaid : Prop := fnExactSideNumbersRow.holds Try.pinned (OpenSpec.ofChange fnExactSideNumbersSpec)

/-- ITS FALSE NEIGHBOUR: 'it returns false'. Refute it at one input. -/
def fnExactSideNumbersWrong : ChangeSpec := { name := "fnExactSideNumbers", fn := fun _ => fun
  | [d1, d2] => { results := [.lit (.bool false)], args := [d1, d2] }
  | _ => none }
def FnExactSideNumbersWrongFalsely : Prop := fnExactSideNumbersRow.holds Try.pinned (OpenSpec.ofChange fnExactSideNumbersWrong)

/-- 'laws.FnExactRoomBehind': WHATEVER THE INPUT: true; the input reads as it did. -/
def fnExactRoomBehindSpec : ChangeSpec := { name := "fnExactRoomBehind", fn := fun _ => fun
  | [d1, d2] => { results := [.lit (.bool true)], args := [d1, d2] }
  | _ => none }
def fnExactRoomBehindRow : OpenClaim := { program := "ytgjgbdpfjohaaaa", sum := "91b758bf726b76236011a08d8f7881fef661aa218048563a6a2c4ca52cd01bda", func := "loop.example/g01336/laws.FnExactRoomBehind", spec := "fnExactRoomBehind", apart := false }
def FnExactRoomBehindSaid : Prop := fnExactRoomBehindRow.holds Try.pinned (OpenSpec.ofChange fnExactRoomBehindSpec)

/-- ITS FALSE NEIGHBOUR: 'it returns false'. Refute it at one input. -/
def fnExactRoomBehindWrong : ChangeSpec := { name := "fnExactRoomBehind", fn := fun _ => fun
  | [d1, d2] => { results := [.lit (.bool false)], args := [d1, d2] }
  | _ => none }
def FnExactRoomBehindWrongFalsely : Prop := fnExactRoomBehindRow.holds Try.pinned (OpenSpec.ofChange fnExactRoomBehindWrong)

/-- 'laws.FnExactPlaceOfPlate': WHATEVER THE INPUT: true; the input reads as it did. -/
def fnExactPlaceOfPlateSpec : ChangeSpec := { name := "fnExactPlaceOfPlate", fn := fun _ => fun
  | [d1, d2] => { results := [.lit (.bool true)], args := [d1, d2] }
  | _ => none }
def fnExactPlaceOfPlateRow : OpenClaim := { program := "ytgjgbdpfjohaaaa", sum := "91b758bf726b76236011a08d8f7881fef661aa218048563a6a2c4ca52cd01bda", func := "loop.example/g01336/laws.FnExactPlaceOfPlate", spec := "fnExactPlaceOfPlate", apart := false }
def FnExactPlaceOfPlateSaid : Prop := fnExactPlaceOfPlateRow.holds Try.pinned (OpenSpec.ofChange fnExactPlaceOfPlateSpec)

/-- ITS FALSE NEIGHBOUR: 'it returns false'. Refute it at one input. -/
def fnExactPlaceOfPlateWrong : ChangeSpec := { name := "fnExactPlaceOfPlate", fn := fun _ => fun
  | [d1, d2] => { results := [.lit (.bool false)], args := [d1, d2] }
  | _ => none }
def FnExactPlaceOfPlateWrongFalsely : Prop := fnExactPlaceOfPlateRow.holds Try.pinned (OpenSpec.ofChange fnExactPlaceOfPlateWrong)

/-- 'laws.FnExactLettersOf': WHATEVER THE INPUT: true; the input reads as it did. -/
def fnExactLettersOfSpec : ChangeSpec := { name := "fnExactLettersOf", fn := fun _ => fun
  | [d1, d2] => { results := [.lit (.bool true)], args := [d1, d2] }
  | _ => none }
def fnExactLettersOfRow : OpenClaim := { program := "ytgjgbdpfjohaaaa", sum := "91b758bf726b76236011a08d8f7881fef661aa218048563a6a2c4ca52cd01bda", func := "loop.example/g01336/laws.FnExactLettersOf", spec := "fnExactLettersOf", apart := false }
def FnExactLettersOfSaid : Prop := fnExactLettersOfRow.holds Try.pinned (OpenSpec.ofChange fnExactLettersOfSpec)

/-- ITS FALSE NEIGHBOUR: 'it returns false'. Refute it at one input. -/
def fnExactLettersOfWrong : ChangeSpec := { name := "fnExactLettersOf", fn := fun _ => fun
  | [d1, d2] => { results := [.lit (.bool false)], args := [d1, d2] }
  | _ => none }
def FnExactLettersOfWrongFalsely : Prop := fnExactLettersOfRow.holds Try.pinned (OpenSpec.ofChange fnExactLettersOfWrong)

/-- 'laws.FnExactRenumberPlates': WHATEVER THE INPUT: true; the input reads as it did. -/
def fnExactRenumberPlatesSpec : ChangeSpec := { name := "fnExactRenumberPlates", fn := fun _ => fun
  | [d] => { results := [.lit (.bool true)], args := [d] }
  | _ => none }
def fnExactRenumberPlatesRow : OpenClaim := { program := "ytgjgbdpfjohaaaa", sum := "91b758bf726b76236011a08d8f7881fef661aa218048563a6a2c4ca52cd01bda", func := "loop.example/g01336/laws.FnExactRenumberPlates", spec := "fnExactRenumberPlates", apart := false }
def FnExactRenumberPlatesSaid : Prop := fnExactRenumberPlatesRow.holds Try.pinned (OpenSpec.ofChange fnExactRenumberPlatesSpec)

/-- ITS FALSE NEIGHBOUR: 'it returns false'. Refute it at one input. -/
def fnExactRenumberPlatesWrong : ChangeSpec := { name := "fnExactRenumberPlates", fn := fun _ => fun
  | [d] => { results := [.lit (.bool false)], args := [d] }
  | _ => none }
def FnExactRenumberPlatesWrongFalsely : Prop := fnExactRenumberPlatesRow.holds Try.pinned (OpenSpec.ofChange fnExactRenumberPlatesWrong)

/-- 'laws.FnExactBalancedHouse': WHATEVER THE INPUT: true; the input reads as it did. -/
def fnExactBalancedHouseSpec : ChangeSpec := { name := "fnExactBalancedHouse", fn := fun _ => fun
  | [d] => { results := [.lit (.bool true)], args := [d] }
  | _ => none }
def fnExactBalancedHouseRow : OpenClaim := { program := "ytgjgbdpfjohaaaa", sum := "91b758bf726b76236011a08d8f7881fef661aa218048563a6a2c4ca52cd01bda", func := "loop.example/g01336/laws.FnExactBalancedHouse", spec := "fnExactBalancedHouse", inPlace := ["math.sqrt"], apart := false }
def FnExactBalancedHouseSaid : Prop := fnExactBalancedHouseRow.holds Try.pinned (OpenSpec.ofChange fnExactBalancedHouseSpec)

/-- ITS FALSE NEIGHBOUR: 'it returns false'. Refute it at one input. -/
def fnExactBalancedHouseWrong : ChangeSpec := { name := "fnExactBalancedHouse", fn := fun _ => fun
  | [d] => { results := [.lit (.bool false)], args := [d] }
  | _ => none }
def FnExactBalancedHouseWrongFalsely : Prop := fnExactBalancedHouseRow.holds Try.pinned (OpenSpec.ofChange fnExactBalancedHouseWrong)

/-- 'laws.FnExactDropPlate': WHATEVER THE INPUT: true; the input reads as it did. -/
def fnExactDropPlateSpec : ChangeSpec := { name := "fnExactDropPlate", fn := fun _ => fun
  | [d1, d2] => { results := [.lit (.bool true)], args := [d1, d2] }
  | _ => none }
def fnExactDropPlateRow : OpenClaim := { program := "ytgjgbdpfjohaaaa", sum := "91b758bf726b76236011a08d8f7881fef661aa218048563a6a2c4ca52cd01bda", func := "loop.example/g01336/laws.FnExactDropPlate", spec := "fnExactDropPlate", apart := false }
def FnExactDropPlateSaid : Prop := fnExactDropPlateRow.holds Try.pinned (OpenSpec.ofChange fnExactDropPlateSpec)

/-- ITS FALSE NEIGHBOUR: 'it returns false'. Refute it at one input. -/
def fnExactDropPlateWrong : ChangeSpec := { name := "fnExactDropPlate", fn := fun _ => fun
  | [d1, d2] => { results := [.lit (.bool false)], args := [d1, d2] }
  | _ => none }
def FnExactDropPlateWrongFalsely : Prop := fnExactDropPlateRow.holds Try.pinned (OpenSpec.ofChange fnExactDropPlateWrong)

/-- 'laws.FnExactGapsOfPlates': WHATEVER THE INPUT: true; the input reads as it did. -/
def fnExactGapsOfPlatesSpec : ChangeSpec := { name := "fnExactGapsOfPlates", fn := fun _ => fun
  | [d] => { results := [.lit (.bool true)], args := [d] }
  | _ => none }
def fnExactGapsOfPlatesRow : OpenClaim := { program := "ytgjgbdpfjohaaaa", sum := "91b758bf726b76236011a08d8f7881fef661aa218048563a6a2c4ca52cd01bda", func := "loop.example/g01336/laws.FnExactGapsOfPlates", spec := "fnExactGapsOfPlates", apart := false }
def FnExactGapsOfPlatesSaid : Prop := fnExactGapsOfPlatesRow.holds Try.pinned (OpenSpec.ofChange fnExactGapsOfPlatesSpec)

/-- ITS FALSE NEIGHBOUR: 'it returns false'. Refute it at one input. -/
def fnExactGapsOfPlatesWrong : ChangeSpec := { name := "fnExactGapsOfPlates", fn := fun _ => fun
  | [d] => { results := [.lit (.bool false)], args := [d] }
  | _ => none }
def FnExactGapsOfPlatesWrongFalsely : Prop := fnExactGapsOfPlatesRow.holds Try.pinned (OpenSpec.ofChange fnExactGapsOfPlatesWrong)

/-- 'laws.FnExactPartPlates': WHATEVER THE INPUT: true; the input reads as it did. -/
def fnExactPartPlatesSpec : ChangeSpec := { name := "fnExactPartPlates", fn := fun _ => fun
  | [d1, d2] => { results := [.lit (.bool true)], args := [d1, d2] }
  | _ => none }
def fnExactPartPlatesRow : OpenClaim := { program := "ytgjgbdpfjohaaaa", sum := "91b758bf726b76236011a08d8f7881fef661aa218048563a6a2c4ca52cd01bda", func := "loop.example/g01336/laws.FnExactPartPlates", spec := "fnExactPartPlates", unfollowed := true, recurses := true, apart := false }
def FnExactPartPlatesSaid : Prop := fnExactPartPlatesRow.holds Try.pinned (OpenSpec.ofChange fnExactPartPlatesSpec)

/-- ITS FALSE NEIGHBOUR: 'it returns false'. Refute it at one input. -/
def fnExactPartPlatesWrong : ChangeSpec := { name := "fnExactPartPlates", fn := fun _ => fun
  | [d1, d2] => { results := [.lit (.bool false)], args := [d1, d2] }
  | _ => none }
def FnExactPartPlatesWrongFalsely : Prop := fnExactPartPlatesRow.holds Try.pinned (OpenSpec.ofChange fnExactPartPlatesWrong)

/-- 'laws.FnExactBalancedStreets': WHATEVER THE INPUT: true; the input reads as it did. -/
def fnExactBalancedStreetsSpec : ChangeSpec := { name := "fnExactBalancedStreets", fn := fun _ => fun
  | [d] => { results := [.lit (.bool true)], args := [d] }
  | _ => none }
def fnExactBalancedStreetsRow : OpenClaim := { program := "ytgjgbdpfjohaaaa", sum := "91b758bf726b76236011a08d8f7881fef661aa218048563a6a2c4ca52cd01bda", func := "loop.example/g01336/laws.FnExactBalancedStreets", spec := "fnExactBalancedStreets", inPlace := ["math.sqrt"], apart := false }
def FnExactBalancedStreetsSaid : Prop := fnExactBalancedStreetsRow.holds Try.pinned (OpenSpec.ofChange fnExactBalancedStreetsSpec)

/-- ITS FALSE NEIGHBOUR: 'it returns false'. Refute it at one input. -/
def fnExactBalancedStreetsWrong : ChangeSpec := { name := "fnExactBalancedStreets", fn := fun _ => fun
  | [d] => { results := [.lit (.bool false)], args := [d] }
  | _ => none }
def FnExactBalancedStreetsWrongFalsely : Prop := fnExactBalancedStreetsRow.holds Try.pinned (OpenSpec.ofChange fnExactBalancedStreetsWrong)

/-- 'laws.FnExactNextHouses': WHATEVER THE INPUT: true; the input reads as it did. -/
def fnExactNextHousesSpec : ChangeSpec := { name := "fnExactNextHouses", fn := fun _ => fun
  | [d1, d2] => { results := [.lit (.bool true)], args := [d1, d2] }
  | _ => none }
def fnExactNextHousesRow : OpenClaim := { program := "ytgjgbdpfjohaaaa", sum := "91b758bf726b76236011a08d8f7881fef661aa218048563a6a2c4ca52cd01bda", func := "loop.example/g01336/laws.FnExactNextHouses", spec := "fnExactNextHouses", recurses := true, apart := false }
def FnExactNextHousesSaid : Prop := fnExactNextHousesRow.holds Try.pinned (OpenSpec.ofChange fnExactNextHousesSpec)

/-- ITS FALSE NEIGHBOUR: 'it returns false'. Refute it at one input. -/
def fnExactNextHousesWrong : ChangeSpec := { name := "fnExactNextHouses", fn := fun _ => fun
  | [d1, d2] => { results := [.lit (.bool false)], args := [d1, d2] }
  | _ => none }
def FnExactNextHousesWrongFalsely : Prop := fnExactNextHousesRow.holds Try.pinned (OpenSpec.ofChange fnExactNextHousesWrong)

/- THE SECOND FORM. 'bulk': how many values and letters a reading holds, each counted each time it is reached (what is shared counts as often as it is met; a slice's spare places count too). A statement '..UptoSaid' is the law's where the arguments, and the package variables that the reading takes, are together of bulk at most 1048576: NARROWER than '..Said'. Prove '..Said' where nothing that the law and all that it calls make is longer than what came in: it says more and counts as full. Else prove '..UptoSaid'. A law counts once. -/
mutual
def uptoBulk {H : Type} : DataW H → Nat
  | .lit (.string bytes) => bytes.length + 1
  | .lit _ => 1
  | .nil => 1
  | .ptr d => uptoBulk d + 1
  | .slice elems spare => uptoBulkAll elems + uptoBulkAll spare + 1
  | .agg parts => uptoBulkAll parts + 1
  | .iface _ d => uptoBulk d + 1
  | .map entries => uptoBulkEntries entries + 1
  | .held _ => 1
def uptoBulkAll {H : Type} : List (DataW H) → Nat
  | [] => 0
  | d :: r => uptoBulk d + uptoBulkAll r
def uptoBulkEntries {H : Type} : List (Lit × DataW H) → Nat
  | [] => 0
  | x :: r => uptoBulkEntry x + uptoBulkEntries r
def uptoBulkEntry {H : Type} : Lit × DataW H → Nat
  | (.string bytes, d) => bytes.length + uptoBulk d + 1
  | (_, d) => uptoBulk d + 1
 end
def uptoSmall : (H : Type) → List (DataW H) → Bool := fun _ ds => decide (uptoBulkAll ds ≤ 1048576)
def OpenSpec.upto (s : _root_.Go.ChangeSpec) : _root_.Go.OpenSpec := { _root_.Go.OpenSpec.ofChange s with cond := some uptoSmall }

/-- 'laws.FnExactSideNumbers', WHERE WHAT IT READS IS OF BULK AT MOST 1048576: true; the input reads as it did. -/
def fnExactSideNumbersUptoRow : OpenClaim := { program := "ytgjgbdpfjohaaaa", sum := "91b758bf726b76236011a08d8f7881fef661aa218048563a6a2c4ca52cd01bda", func := "loop.example/g01336/laws.FnExactSideNumbers", spec := "fnExactSideNumbers", apart := false, narrowed := true }
def FnExactSideNumbersUptoSaid : Prop := fnExactSideNumbersUptoRow.holds Try.pinned (OpenSpec.upto fnExactSideNumbersSpec)

/-- 'laws.FnExactRoomBehind', WHERE WHAT IT READS IS OF BULK AT MOST 1048576: true; the input reads as it did. -/
def fnExactRoomBehindUptoRow : OpenClaim := { program := "ytgjgbdpfjohaaaa", sum := "91b758bf726b76236011a08d8f7881fef661aa218048563a6a2c4ca52cd01bda", func := "loop.example/g01336/laws.FnExactRoomBehind", spec := "fnExactRoomBehind", apart := false, narrowed := true }
def FnExactRoomBehindUptoSaid : Prop := fnExactRoomBehindUptoRow.holds Try.pinned (OpenSpec.upto fnExactRoomBehindSpec)

/-- 'laws.FnExactPlaceOfPlate', WHERE WHAT IT READS IS OF BULK AT MOST 1048576: true; the input reads as it did. -/
def fnExactPlaceOfPlateUptoRow : OpenClaim := { program := "ytgjgbdpfjohaaaa", sum := "91b758bf726b76236011a08d8f7881fef661aa218048563a6a2c4ca52cd01bda", func := "loop.example/g01336/laws.FnExactPlaceOfPlate", spec := "fnExactPlaceOfPlate", apart := false, narrowed := true }
def FnExactPlaceOfPlateUptoSaid : Prop := fnExactPlaceOfPlateUptoRow.holds Try.pinned (OpenSpec.upto fnExactPlaceOfPlateSpec)

/-- 'laws.FnExactLettersOf', WHERE WHAT IT READS IS OF BULK AT MOST 1048576: true; the input reads as it did. -/
def fnExactLettersOfUptoRow : OpenClaim := { program := "ytgjgbdpfjohaaaa", sum := "91b758bf726b76236011a08d8f7881fef661aa218048563a6a2c4ca52cd01bda", func := "loop.example/g01336/laws.FnExactLettersOf", spec := "fnExactLettersOf", apart := false, narrowed := true }
def FnExactLettersOfUptoSaid : Prop := fnExactLettersOfUptoRow.holds Try.pinned (OpenSpec.upto fnExactLettersOfSpec)

/-- 'laws.FnExactRenumberPlates', WHERE WHAT IT READS IS OF BULK AT MOST 1048576: true; the input reads as it did. -/
def fnExactRenumberPlatesUptoRow : OpenClaim := { program := "ytgjgbdpfjohaaaa", sum := "91b758bf726b76236011a08d8f7881fef661aa218048563a6a2c4ca52cd01bda", func := "loop.example/g01336/laws.FnExactRenumberPlates", spec := "fnExactRenumberPlates", apart := false, narrowed := true }
def FnExactRenumberPlatesUptoSaid : Prop := fnExactRenumberPlatesUptoRow.holds Try.pinned (OpenSpec.upto fnExactRenumberPlatesSpec)

/-- 'laws.FnExactBalancedHouse', WHERE WHAT IT READS IS OF BULK AT MOST 1048576: true; the input reads as it did. -/
def fnExactBalancedHouseUptoRow : OpenClaim := { program := "ytgjgbdpfjohaaaa", sum := "91b758bf726b76236011a08d8f7881fef661aa218048563a6a2c4ca52cd01bda", func := "loop.example/g01336/laws.FnExactBalancedHouse", spec := "fnExactBalancedHouse", inPlace := ["math.sqrt"], apart := false, narrowed := true }
def FnExactBalancedHouseUptoSaid : Prop := fnExactBalancedHouseUptoRow.holds Try.pinned (OpenSpec.upto fnExactBalancedHouseSpec)

/-- 'laws.FnExactDropPlate', WHERE WHAT IT READS IS OF BULK AT MOST 1048576: true; the input reads as it did. -/
def fnExactDropPlateUptoRow : OpenClaim := { program := "ytgjgbdpfjohaaaa", sum := "91b758bf726b76236011a08d8f7881fef661aa218048563a6a2c4ca52cd01bda", func := "loop.example/g01336/laws.FnExactDropPlate", spec := "fnExactDropPlate", apart := false, narrowed := true }
def FnExactDropPlateUptoSaid : Prop := fnExactDropPlateUptoRow.holds Try.pinned (OpenSpec.upto fnExactDropPlateSpec)

/-- 'laws.FnExactGapsOfPlates', WHERE WHAT IT READS IS OF BULK AT MOST 1048576: true; the input reads as it did. -/
def fnExactGapsOfPlatesUptoRow : OpenClaim := { program := "ytgjgbdpfjohaaaa", sum := "91b758bf726b76236011a08d8f7881fef661aa218048563a6a2c4ca52cd01bda", func := "loop.example/g01336/laws.FnExactGapsOfPlates", spec := "fnExactGapsOfPlates", apart := false, narrowed := true }
def FnExactGapsOfPlatesUptoSaid : Prop := fnExactGapsOfPlatesUptoRow.holds Try.pinned (OpenSpec.upto fnExactGapsOfPlatesSpec)

/-- 'laws.FnExactPartPlates', WHERE WHAT IT READS IS OF BULK AT MOST 1048576: true; the input reads as it did. -/
def fnExactPartPlatesUptoRow : OpenClaim := { program := "ytgjgbdpfjohaaaa", sum := "91b758bf726b76236011a08d8f7881fef661aa218048563a6a2c4ca52cd01bda", func := "loop.example/g01336/laws.FnExactPartPlates", spec := "fnExactPartPlates", unfollowed := true, recurses := true, apart := false, narrowed := true }
def FnExactPartPlatesUptoSaid : Prop := fnExactPartPlatesUptoRow.holds Try.pinned (OpenSpec.upto fnExactPartPlatesSpec)

/-- 'laws.FnExactBalancedStreets', WHERE WHAT IT READS IS OF BULK AT MOST 1048576: true; the input reads as it did. -/
def fnExactBalancedStreetsUptoRow : OpenClaim := { program := "ytgjgbdpfjohaaaa", sum := "91b758bf726b76236011a08d8f7881fef661aa218048563a6a2c4ca52cd01bda", func := "loop.example/g01336/laws.FnExactBalancedStreets", spec := "fnExactBalancedStreets", inPlace := ["math.sqrt"], apart := false, narrowed := true }
def FnExactBalancedStreetsUptoSaid : Prop := fnExactBalancedStreetsUptoRow.holds Try.pinned (OpenSpec.upto fnExactBalancedStreetsSpec)

/-- 'laws.FnExactNextHouses', WHERE WHAT IT READS IS OF BULK AT MOST 1048576: true; the input reads as it did. -/
def fnExactNextHousesUptoRow : OpenClaim := { program := "ytgjgbdpfjohaaaa", sum := "91b758bf726b76236011a08d8f7881fef661aa218048563a6a2c4ca52cd01bda", func := "loop.example/g01336/laws.FnExactNextHouses", spec := "fnExactNextHouses", recurses := true, apart := false, narrowed := true }
def FnExactNextHousesUptoSaid : Prop := fnExactNextHousesUptoRow.holds Try.pinned (OpenSpec.upto fnExactNextHousesSpec)

end Rows
end Go.Proofs.Ytgjgbdpfjohaaaa
