/-
  No cell of these rows narrows 'for every input' (looked for: loops, veiled, ifaces, maps, wideKeys, modest, calm, conditions, laid).
  DERIVED. THE GIVEN ROWS OF THIS SEAT. 11 by the template 'for every input the law returns true; each argument reads behind the call as it read before'; 0 by the template 'total and deterministic' (their statements: YtfgbohochpjkfaaTotals.lean).
  GIVEN WITH THE SEED: the statements are not yours to turn. If you find one false, say at which input.
  Laid BY PROGRAM, IN A SANDBOX (cutbox-rows.mjs): the forced cells as the released guide's own fill.sh prints them over the translation 537b3817acdd1571… (all of the seat's roots in one cut). By AI agents, Wed Nov 11 2026. No macro, syntax, notation, axiom, sorry.
-/
import Derived.Test.YtfgbohochpjkfaaChecked
import GoSem.Claim
import GoSem.ClaimJoined
import GoSem.ClaimMapViews
import Derived.JoinedTies
import Derived.KernelRfl
namespace Go.Proofs.Ytfgbohochpjkfaa
/- THE CELL 'sum', in the pinned program and in every row, IS THE sha256 OF THE DUMP (.gsa) THAT YtfgbohochpjkfaaProg.lean LOADS. Nothing in Lean hashes anything: it is a label: what it is worth is what the hold of that sum in a sandbox is worth. -/
noncomputable def Try.pinned : Pinned := { name := "ytfgbohochpjkfaa", sum := "537b3817acdd157197cfe3d27435510303baf355db0862f1b7944040617693a6", checked := Try.checked }
namespace Rows
def none {H : Type} : Left H := { results := [], args := [] }

/-- 'laws.FnExactIsValidCosts': WHATEVER THE INPUT: true; the input reads as it did. -/
def fnExactIsValidCostsSpec : ChangeSpec := { name := "fnExactIsValidCosts", fn := fun _ => fun
  | [d] => { results := [.lit (.bool true)], args := [d] }
  | _ => none }
def fnExactIsValidCostsRow : OpenClaim := { program := "ytfgbohochpjkfaa", sum := "537b3817acdd157197cfe3d27435510303baf355db0862f1b7944040617693a6", func := "loop.example/g00906/laws.FnExactIsValidCosts", spec := "fnExactIsValidCosts", unfollowed := true, recurses := true, apart := false }
def FnExactIsValidCostsSaid : Prop := fnExactIsValidCostsRow.holds Try.pinned (OpenSpec.ofChange fnExactIsValidCostsSpec)

/-- ITS FALSE NEIGHBOUR: 'it returns false'. Refute it at one input. -/
def fnExactIsValidCostsWrong : ChangeSpec := { name := "fnExactIsValidCosts", fn := fun _ => fun
  | [d] => { results := [.lit (.bool false)], args := [d] }
  | _ => none }
def FnExactIsValidCostsWrongFalsely : Prop := fnExactIsValidCostsRow.holds Try.pinned (OpenSpec.ofChange fnExactIsValidCostsWrong)

/-- 'laws.FnExactIsAssignment': WHATEVER THE INPUT: true; the input reads as it did. -/
def fnExactIsAssignmentSpec : ChangeSpec := { name := "fnExactIsAssignment", fn := fun _ => fun
  | [d1, d2] => { results := [.lit (.bool true)], args := [d1, d2] }
  | _ => none }
def fnExactIsAssignmentRow : OpenClaim := { program := "ytfgbohochpjkfaa", sum := "537b3817acdd157197cfe3d27435510303baf355db0862f1b7944040617693a6", func := "loop.example/g00906/laws.FnExactIsAssignment", spec := "fnExactIsAssignment", unfollowed := true, recurses := true, apart := false }
def FnExactIsAssignmentSaid : Prop := fnExactIsAssignmentRow.holds Try.pinned (OpenSpec.ofChange fnExactIsAssignmentSpec)

/-- ITS FALSE NEIGHBOUR: 'it returns false'. Refute it at one input. -/
def fnExactIsAssignmentWrong : ChangeSpec := { name := "fnExactIsAssignment", fn := fun _ => fun
  | [d1, d2] => { results := [.lit (.bool false)], args := [d1, d2] }
  | _ => none }
def FnExactIsAssignmentWrongFalsely : Prop := fnExactIsAssignmentRow.holds Try.pinned (OpenSpec.ofChange fnExactIsAssignmentWrong)

/-- 'laws.FnExactProvenLower': WHATEVER THE INPUT: true; the input reads as it did. -/
def fnExactProvenLowerSpec : ChangeSpec := { name := "fnExactProvenLower", fn := fun _ => fun
  | [d1, d2] => { results := [.lit (.bool true)], args := [d1, d2] }
  | _ => none }
def fnExactProvenLowerRow : OpenClaim := { program := "ytfgbohochpjkfaa", sum := "537b3817acdd157197cfe3d27435510303baf355db0862f1b7944040617693a6", func := "loop.example/g00906/laws.FnExactProvenLower", spec := "fnExactProvenLower", unfollowed := true, recurses := true, apart := false }
def FnExactProvenLowerSaid : Prop := fnExactProvenLowerRow.holds Try.pinned (OpenSpec.ofChange fnExactProvenLowerSpec)

/-- ITS FALSE NEIGHBOUR: 'it returns false'. Refute it at one input. -/
def fnExactProvenLowerWrong : ChangeSpec := { name := "fnExactProvenLower", fn := fun _ => fun
  | [d1, d2] => { results := [.lit (.bool false)], args := [d1, d2] }
  | _ => none }
def FnExactProvenLowerWrongFalsely : Prop := fnExactProvenLowerRow.holds Try.pinned (OpenSpec.ofChange fnExactProvenLowerWrong)

/-- 'laws.FnExactAssignmentCost': WHATEVER THE INPUT: true; the input reads as it did. -/
def fnExactAssignmentCostSpec : ChangeSpec := { name := "fnExactAssignmentCost", fn := fun _ => fun
  | [d1, d2] => { results := [.lit (.bool true)], args := [d1, d2] }
  | _ => none }
def fnExactAssignmentCostRow : OpenClaim := { program := "ytfgbohochpjkfaa", sum := "537b3817acdd157197cfe3d27435510303baf355db0862f1b7944040617693a6", func := "loop.example/g00906/laws.FnExactAssignmentCost", spec := "fnExactAssignmentCost", unfollowed := true, recurses := true, apart := false }
def FnExactAssignmentCostSaid : Prop := fnExactAssignmentCostRow.holds Try.pinned (OpenSpec.ofChange fnExactAssignmentCostSpec)

/-- ITS FALSE NEIGHBOUR: 'it returns false'. Refute it at one input. -/
def fnExactAssignmentCostWrong : ChangeSpec := { name := "fnExactAssignmentCost", fn := fun _ => fun
  | [d1, d2] => { results := [.lit (.bool false)], args := [d1, d2] }
  | _ => none }
def FnExactAssignmentCostWrongFalsely : Prop := fnExactAssignmentCostRow.holds Try.pinned (OpenSpec.ofChange fnExactAssignmentCostWrong)

/-- 'laws.FnExactWithoutVehicle': WHATEVER THE INPUT: true; the input reads as it did. -/
def fnExactWithoutVehicleSpec : ChangeSpec := { name := "fnExactWithoutVehicle", fn := fun _ => fun
  | [d1, d2] => { results := [.lit (.bool true)], args := [d1, d2] }
  | _ => none }
def fnExactWithoutVehicleRow : OpenClaim := { program := "ytfgbohochpjkfaa", sum := "537b3817acdd157197cfe3d27435510303baf355db0862f1b7944040617693a6", func := "loop.example/g00906/laws.FnExactWithoutVehicle", spec := "fnExactWithoutVehicle", unfollowed := true, recurses := true, apart := false }
def FnExactWithoutVehicleSaid : Prop := fnExactWithoutVehicleRow.holds Try.pinned (OpenSpec.ofChange fnExactWithoutVehicleSpec)

/-- ITS FALSE NEIGHBOUR: 'it returns false'. Refute it at one input. -/
def fnExactWithoutVehicleWrong : ChangeSpec := { name := "fnExactWithoutVehicle", fn := fun _ => fun
  | [d1, d2] => { results := [.lit (.bool false)], args := [d1, d2] }
  | _ => none }
def FnExactWithoutVehicleWrongFalsely : Prop := fnExactWithoutVehicleRow.holds Try.pinned (OpenSpec.ofChange fnExactWithoutVehicleWrong)

/-- 'laws.FnExactCountAssignments': WHATEVER THE INPUT: true; the input reads as it did. -/
def fnExactCountAssignmentsSpec : ChangeSpec := { name := "fnExactCountAssignments", fn := fun _ => fun
  | [d] => { results := [.lit (.bool true)], args := [d] }
  | _ => none }
def fnExactCountAssignmentsRow : OpenClaim := { program := "ytfgbohochpjkfaa", sum := "537b3817acdd157197cfe3d27435510303baf355db0862f1b7944040617693a6", func := "loop.example/g00906/laws.FnExactCountAssignments", spec := "fnExactCountAssignments", unfollowed := true, recurses := true, apart := false }
def FnExactCountAssignmentsSaid : Prop := fnExactCountAssignmentsRow.holds Try.pinned (OpenSpec.ofChange fnExactCountAssignmentsSpec)

/-- ITS FALSE NEIGHBOUR: 'it returns false'. Refute it at one input. -/
def fnExactCountAssignmentsWrong : ChangeSpec := { name := "fnExactCountAssignments", fn := fun _ => fun
  | [d] => { results := [.lit (.bool false)], args := [d] }
  | _ => none }
def FnExactCountAssignmentsWrongFalsely : Prop := fnExactCountAssignmentsRow.holds Try.pinned (OpenSpec.ofChange fnExactCountAssignmentsWrong)

/-- 'laws.FnExactGreedyAssignment': WHATEVER THE INPUT: true; the input reads as it did. -/
def fnExactGreedyAssignmentSpec : ChangeSpec := { name := "fnExactGreedyAssignment", fn := fun _ => fun
  | [d] => { results := [.lit (.bool true)], args := [d] }
  | _ => none }
def fnExactGreedyAssignmentRow : OpenClaim := { program := "ytfgbohochpjkfaa", sum := "537b3817acdd157197cfe3d27435510303baf355db0862f1b7944040617693a6", func := "loop.example/g00906/laws.FnExactGreedyAssignment", spec := "fnExactGreedyAssignment", unfollowed := true, recurses := true, apart := false }
def FnExactGreedyAssignmentSaid : Prop := fnExactGreedyAssignmentRow.holds Try.pinned (OpenSpec.ofChange fnExactGreedyAssignmentSpec)

/-- ITS FALSE NEIGHBOUR: 'it returns false'. Refute it at one input. -/
def fnExactGreedyAssignmentWrong : ChangeSpec := { name := "fnExactGreedyAssignment", fn := fun _ => fun
  | [d] => { results := [.lit (.bool false)], args := [d] }
  | _ => none }
def FnExactGreedyAssignmentWrongFalsely : Prop := fnExactGreedyAssignmentRow.holds Try.pinned (OpenSpec.ofChange fnExactGreedyAssignmentWrong)

/-- 'laws.FnExactCheapestAssignment': WHATEVER THE INPUT: true; the input reads as it did. -/
def fnExactCheapestAssignmentSpec : ChangeSpec := { name := "fnExactCheapestAssignment", fn := fun _ => fun
  | [d] => { results := [.lit (.bool true)], args := [d] }
  | _ => none }
def fnExactCheapestAssignmentRow : OpenClaim := { program := "ytfgbohochpjkfaa", sum := "537b3817acdd157197cfe3d27435510303baf355db0862f1b7944040617693a6", func := "loop.example/g00906/laws.FnExactCheapestAssignment", spec := "fnExactCheapestAssignment", unfollowed := true, recurses := true, apart := false }
def FnExactCheapestAssignmentSaid : Prop := fnExactCheapestAssignmentRow.holds Try.pinned (OpenSpec.ofChange fnExactCheapestAssignmentSpec)

/-- ITS FALSE NEIGHBOUR: 'it returns false'. Refute it at one input. -/
def fnExactCheapestAssignmentWrong : ChangeSpec := { name := "fnExactCheapestAssignment", fn := fun _ => fun
  | [d] => { results := [.lit (.bool false)], args := [d] }
  | _ => none }
def FnExactCheapestAssignmentWrongFalsely : Prop := fnExactCheapestAssignmentRow.holds Try.pinned (OpenSpec.ofChange fnExactCheapestAssignmentWrong)

/-- 'laws.FnExactFastestAssignment': WHATEVER THE INPUT: true; the input reads as it did. -/
def fnExactFastestAssignmentSpec : ChangeSpec := { name := "fnExactFastestAssignment", fn := fun _ => fun
  | [d] => { results := [.lit (.bool true)], args := [d] }
  | _ => none }
def fnExactFastestAssignmentRow : OpenClaim := { program := "ytfgbohochpjkfaa", sum := "537b3817acdd157197cfe3d27435510303baf355db0862f1b7944040617693a6", func := "loop.example/g00906/laws.FnExactFastestAssignment", spec := "fnExactFastestAssignment", unfollowed := true, recurses := true, apart := false }
def FnExactFastestAssignmentSaid : Prop := fnExactFastestAssignmentRow.holds Try.pinned (OpenSpec.ofChange fnExactFastestAssignmentSpec)

/-- ITS FALSE NEIGHBOUR: 'it returns false'. Refute it at one input. -/
def fnExactFastestAssignmentWrong : ChangeSpec := { name := "fnExactFastestAssignment", fn := fun _ => fun
  | [d] => { results := [.lit (.bool false)], args := [d] }
  | _ => none }
def FnExactFastestAssignmentWrongFalsely : Prop := fnExactFastestAssignmentRow.holds Try.pinned (OpenSpec.ofChange fnExactFastestAssignmentWrong)

/-- 'laws.FnVehicles': WHATEVER THE INPUT: true; the input reads as it did. -/
def fnVehiclesSpec : ChangeSpec := { name := "fnVehicles", fn := fun _ => fun
  | [d] => { results := [.lit (.bool true)], args := [d] }
  | _ => none }
def fnVehiclesRow : OpenClaim := { program := "ytfgbohochpjkfaa", sum := "537b3817acdd157197cfe3d27435510303baf355db0862f1b7944040617693a6", func := "loop.example/g00906/laws.FnVehicles", spec := "fnVehicles", unfollowed := true, recurses := true, apart := false }
def FnVehiclesSaid : Prop := fnVehiclesRow.holds Try.pinned (OpenSpec.ofChange fnVehiclesSpec)

/-- ITS FALSE NEIGHBOUR: 'it returns false'. Refute it at one input. -/
def fnVehiclesWrong : ChangeSpec := { name := "fnVehicles", fn := fun _ => fun
  | [d] => { results := [.lit (.bool false)], args := [d] }
  | _ => none }
def FnVehiclesWrongFalsely : Prop := fnVehiclesRow.holds Try.pinned (OpenSpec.ofChange fnVehiclesWrong)

/-- 'laws.FnAssignments': WHATEVER THE INPUT: true; the input reads as it did. -/
def fnAssignmentsSpec : ChangeSpec := { name := "fnAssignments", fn := fun _ => fun
  | [d] => { results := [.lit (.bool true)], args := [d] }
  | _ => none }
def fnAssignmentsRow : OpenClaim := { program := "ytfgbohochpjkfaa", sum := "537b3817acdd157197cfe3d27435510303baf355db0862f1b7944040617693a6", func := "loop.example/g00906/laws.FnAssignments", spec := "fnAssignments", unfollowed := true, recurses := true, apart := false }
def FnAssignmentsSaid : Prop := fnAssignmentsRow.holds Try.pinned (OpenSpec.ofChange fnAssignmentsSpec)

/-- ITS FALSE NEIGHBOUR: 'it returns false'. Refute it at one input. -/
def fnAssignmentsWrong : ChangeSpec := { name := "fnAssignments", fn := fun _ => fun
  | [d] => { results := [.lit (.bool false)], args := [d] }
  | _ => none }
def FnAssignmentsWrongFalsely : Prop := fnAssignmentsRow.holds Try.pinned (OpenSpec.ofChange fnAssignmentsWrong)

/- THE SECOND FORM. 'bulk': how many values and letters a reading holds, each counted each time it is reached (what is shared counts as often as it is met; a slice's spare places count too). A statement '..UptoSaid' is the law's where the arguments, and the package variables that the reading takes, are together of bulk at most 1048576: NARROWER than '..Said'. Prove '..Said' where nothing that the law and all that it calls make is longer than what came in: it says more and counts as full. Else prove '..UptoSaid'. A law counts once. -/
mutual
def uptoBulk {H : Type} : DataW H → Nat
  | .lit (.string bytes) => bytes.length + 1
  | .lit _ => 1
  | .nil => 1
  | .ptr d => uptoBulk d + 1
  | .slice elems spare => uptoBulkAll elems + uptoBulkAll spare + 1
  | .agg parts => uptoBulkAll parts + 1
  | .iface _ d => uptoBulk d + 1
  | .map entries => uptoBulkEntries entries + 1
  | .held _ => 1
def uptoBulkAll {H : Type} : List (DataW H) → Nat
  | [] => 0
  | d :: r => uptoBulk d + uptoBulkAll r
def uptoBulkEntries {H : Type} : List (Lit × DataW H) → Nat
  | [] => 0
  | x :: r => uptoBulkEntry x + uptoBulkEntries r
def uptoBulkEntry {H : Type} : Lit × DataW H → Nat
  | (.string bytes, d) => bytes.length + uptoBulk d + 1
  | (_, d) => uptoBulk d + 1
 end
def uptoSmall : (H : Type) → List (DataW H) → Bool := fun _ ds => decide (uptoBulkAll ds ≤ 1048576)
def OpenSpec.upto (s : _root_.Go.ChangeSpec) : _root_.Go.OpenSpec := { _root_.Go.OpenSpec.ofChange s with cond := some uptoSmall }

/-- 'laws.FnExactIsValidCosts', WHERE WHAT IT READS IS OF BULK AT MOST 1048576: true; the input reads as it did. -/
def fnExactIsValidCostsUptoRow : OpenClaim := { program := "ytfgbohochpjkfaa", sum := "537b3817acdd157197cfe3d27435510303baf355db0862f1b7944040617693a6", func := "loop.example/g00906/laws.FnExactIsValidCosts", spec := "fnExactIsValidCosts", unfollowed := true, recurses := true, apart := false, narrowed := true }
def FnExactIsValidCostsUptoSaid : Prop := fnExactIsValidCostsUptoRow.holds Try.pinned (OpenSpec.upto fnExactIsValidCostsSpec)

/-- 'laws.FnExactIsAssignment', WHERE WHAT IT READS IS OF BULK AT MOST 1048576: true; the input reads as it did. -/
def fnExactIsAssignmentUptoRow : OpenClaim := { program := "ytfgbohochpjkfaa", sum := "537b3817acdd157197cfe3d27435510303baf355db0862f1b7944040617693a6", func := "loop.example/g00906/laws.FnExactIsAssignment", spec := "fnExactIsAssignment", unfollowed := true, recurses := true, apart := false, narrowed := true }
def FnExactIsAssignmentUptoSaid : Prop := fnExactIsAssignmentUptoRow.holds Try.pinned (OpenSpec.upto fnExactIsAssignmentSpec)

/-- 'laws.FnExactProvenLower', WHERE WHAT IT READS IS OF BULK AT MOST 1048576: true; the input reads as it did. -/
def fnExactProvenLowerUptoRow : OpenClaim := { program := "ytfgbohochpjkfaa", sum := "537b3817acdd157197cfe3d27435510303baf355db0862f1b7944040617693a6", func := "loop.example/g00906/laws.FnExactProvenLower", spec := "fnExactProvenLower", unfollowed := true, recurses := true, apart := false, narrowed := true }
def FnExactProvenLowerUptoSaid : Prop := fnExactProvenLowerUptoRow.holds Try.pinned (OpenSpec.upto fnExactProvenLowerSpec)

/-- 'laws.FnExactAssignmentCost', WHERE WHAT IT READS IS OF BULK AT MOST 1048576: true; the input reads as it did. -/
def fnExactAssignmentCostUptoRow : OpenClaim := { program := "ytfgbohochpjkfaa", sum := "537b3817acdd157197cfe3d27435510303baf355db0862f1b7944040617693a6", func := "loop.example/g00906/laws.FnExactAssignmentCost", spec := "fnExactAssignmentCost", unfollowed := true, recurses := true, apart := false, narrowed := true }
def FnExactAssignmentCostUptoSaid : Prop := fnExactAssignmentCostUptoRow.holds Try.pinned (OpenSpec.upto fnExactAssignmentCostSpec)

/-- 'laws.FnExactWithoutVehicle', WHERE WHAT IT READS IS OF BULK AT MOST 1048576: true; the input reads as it did. -/
def fnExactWithoutVehicleUptoRow : OpenClaim := { program := "ytfgbohochpjkfaa", sum := "537b3817acdd157197cfe3d27435510303baf355db0862f1b7944040617693a6", func := "loop.example/g00906/laws.FnExactWithoutVehicle", spec := "fnExactWithoutVehicle", unfollowed := true, recurses := true, apart := false, narrowed := true }
def FnExactWithoutVehicleUptoSaid : Prop := fnExactWithoutVehicleUptoRow.holds Try.pinned (OpenSpec.upto fnExactWithoutVehicleSpec)

/-- 'laws.FnExactCountAssignments', WHERE WHAT IT READS IS OF BULK AT MOST 1048576: true; the input reads as it did. -/
def fnExactCountAssignmentsUptoRow : OpenClaim := { program := "ytfgbohochpjkfaa", sum := "537b3817acdd157197cfe3d27435510303baf355db0862f1b7944040617693a6", func := "loop.example/g00906/laws.FnExactCountAssignments", spec := "fnExactCountAssignments", unfollowed := true, recurses := true, apart := false, narrowed := true }
def FnExactCountAssignmentsUptoSaid : Prop := fnExactCountAssignmentsUptoRow.holds Try.pinned (OpenSpec.upto fnExactCountAssignmentsSpec)

/-- 'laws.FnExactGreedyAssignment', WHERE WHAT IT READS IS OF BULK AT MOST 1048576: true; the input reads as it did. -/
def fnExactGreedyAssignmentUptoRow : OpenClaim := { program := "ytfgbohochpjkfaa", sum := "537b3817acdd157197cfe3d27435510303baf355db0862f1b7944040617693a6", func := "loop.example/g00906/laws.FnExactGreedyAssignment", spec := "fnExactGreedyAssignment", unfollowed := true, recurses := true, apart := false, narrowed := true }
def FnExactGreedyAssignmentUptoSaid : Prop := fnExactGreedyAssignmentUptoRow.holds Try.pinned (OpenSpec.upto fnExactGreedyAssignmentSpec)

/-- 'laws.FnExactCheapestAssignment', WHERE WHAT IT READS IS OF BULK AT MOST 1048576: true; the input reads as it did. -/
def fnExactCheapestAssignmentUptoRow : OpenClaim := { program := "ytfgbohochpjkfaa", sum := "537b3817acdd157197cfe3d27435510303baf355db0862f1b7944040617693a6", func := "loop.example/g00906/laws.FnExactCheapestAssignment", spec := "fnExactCheapestAssignment", unfollowed := true, recurses := true, apart := false, narrowed := true }
def FnExactCheapestAssignmentUptoSaid : Prop := fnExactCheapestAssignmentUptoRow.holds Try.pinned (OpenSpec.upto fnExactCheapestAssignmentSpec)

/-- 'laws.FnExactFastestAssignment', WHERE WHAT IT READS IS OF BULK AT MOST 1048576: true; the input reads as it did. -/
def fnExactFastestAssignmentUptoRow : OpenClaim := { program := "ytfgbohochpjkfaa", sum := "537b3817acdd157197cfe3d27435510303baf355db0862f1b7944040617693a6", func := "loop.example/g00906/laws.FnExactFastestAssignment", spec := "fnExactFastestAssignment", unfollowed := true, recurses := true, apart := false, narrowed := true }
def FnExactFastestAssignmentUptoSaid : Prop := fnExactFastestAssignmentUptoRow.holds Try.pinned (OpenSpec.upto fnExactFastestAssignmentSpec)

/-- 'laws.FnVehicles', WHERE WHAT IT READS IS OF BULK AT MOST 1048576: true; the input reads as it did. -/
def fnVehiclesUptoRow : OpenClaim := { program := "ytfgbohochpjkfaa", sum := "537b3817acdd157197cfe3d27435510303baf355db0862f1b7944040617693a6", func := "loop.example/g00906/laws.FnVehicles", spec := "fnVehicles", unfollowed := true, recurses := true, apart := false, narrowed := true }
def FnVehiclesUptoSaid : Prop := fnVehiclesUptoRow.holds Try.pinned (OpenSpec.upto fnVehiclesSpec)

/-- 'laws.FnAssignments', WHERE WHAT IT READS IS OF BULK AT MOST 1048576: true; the input reads as it did. -/
def fnAssignmentsUptoRow : OpenClaim := { program := "ytfgbohochpjkfaa", sum := "537b3817acdd157197cfe3d27435510303baf355db0862f1b7944040617693a6", func := "loop.example/g00906/laws.FnAssignments", spec := "fnAssignments", unfollowed := true, recurses := true, apart := false, narrowed := true }
def FnAssignmentsUptoSaid : Prop := fnAssignmentsUptoRow.holds Try.pinned (OpenSpec.upto fnAssignmentsSpec)

end Rows
end Go.Proofs.Ytfgbohochpjkfaa
