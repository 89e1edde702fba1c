/-
  No cell of these rows narrows 'for every input' (looked for: loops, veiled, ifaces, maps, wideKeys, modest, calm, conditions, laid).
  DERIVED. THE GIVEN ROWS OF THIS SEAT. 10 by the template 'for every input the law returns true; each argument reads behind the call as it read before'; 0 by the template 'total and deterministic' (their statements: YtbpccdbkaiigcaaTotals.lean).
  GIVEN WITH THE SEED: the statements are not yours to turn. If you find one false, say at which input.
  Laid BY PROGRAM, IN A SANDBOX (cutbox-rows.mjs): the forced cells as the released guide's own fill.sh prints them over the translation 17e910ffc622985c… (all of the seat's roots in one cut). By AI agents, Wed Nov 11 2026. No macro, syntax, notation, axiom, sorry.
-/
import Derived.Test.YtbpccdbkaiigcaaChecked
import GoSem.Claim
import GoSem.ClaimJoined
import GoSem.ClaimMapViews
import Derived.JoinedTies
import Derived.KernelRfl
namespace Go.Proofs.Ytbpccdbkaiigcaa
/- THE CELL 'sum', in the pinned program and in every row, IS THE sha256 OF THE DUMP (.gsa) THAT YtbpccdbkaiigcaaProg.lean LOADS. Nothing in Lean hashes anything: it is a label: what it is worth is what the hold of that sum in a sandbox is worth. -/
noncomputable def Try.pinned : Pinned := { name := "ytbpccdbkaiigcaa", sum := "17e910ffc622985c4f141732824e5a4f436077e6b96b1b2cf6ac64b6c6ec3faf", checked := Try.checked }
namespace Rows
def none {H : Type} : Left H := { results := [], args := [] }

/-- 'laws.FnExactIsValidFloor': WHATEVER THE INPUT: true; the input reads as it did. -/
def fnExactIsValidFloorSpec : ChangeSpec := { name := "fnExactIsValidFloor", fn := fun _ => fun
  | [d] => { results := [.lit (.bool true)], args := [d] }
  | _ => none }
def fnExactIsValidFloorRow : OpenClaim := { program := "ytbpccdbkaiigcaa", sum := "17e910ffc622985c4f141732824e5a4f436077e6b96b1b2cf6ac64b6c6ec3faf", func := "loop.example/g00906/laws.FnExactIsValidFloor", spec := "fnExactIsValidFloor", plainKeys := false, apart := false }
def FnExactIsValidFloorSaid : Prop := fnExactIsValidFloorRow.holds Try.pinned (OpenSpec.ofChange fnExactIsValidFloorSpec)

/-- ITS FALSE NEIGHBOUR: 'it returns false'. Refute it at one input. -/
def fnExactIsValidFloorWrong : ChangeSpec := { name := "fnExactIsValidFloor", fn := fun _ => fun
  | [d] => { results := [.lit (.bool false)], args := [d] }
  | _ => none }
def FnExactIsValidFloorWrongFalsely : Prop := fnExactIsValidFloorRow.holds Try.pinned (OpenSpec.ofChange fnExactIsValidFloorWrong)

/-- 'laws.FnExactIsValidPath': WHATEVER THE INPUT: true; the input reads as it did. -/
def fnExactIsValidPathSpec : ChangeSpec := { name := "fnExactIsValidPath", fn := fun _ => fun
  | [d1, d2] => { results := [.lit (.bool true)], args := [d1, d2] }
  | _ => none }
def fnExactIsValidPathRow : OpenClaim := { program := "ytbpccdbkaiigcaa", sum := "17e910ffc622985c4f141732824e5a4f436077e6b96b1b2cf6ac64b6c6ec3faf", func := "loop.example/g00906/laws.FnExactIsValidPath", spec := "fnExactIsValidPath", plainKeys := false, apart := false }
def FnExactIsValidPathSaid : Prop := fnExactIsValidPathRow.holds Try.pinned (OpenSpec.ofChange fnExactIsValidPathSpec)

/-- ITS FALSE NEIGHBOUR: 'it returns false'. Refute it at one input. -/
def fnExactIsValidPathWrong : ChangeSpec := { name := "fnExactIsValidPath", fn := fun _ => fun
  | [d1, d2] => { results := [.lit (.bool false)], args := [d1, d2] }
  | _ => none }
def FnExactIsValidPathWrongFalsely : Prop := fnExactIsValidPathRow.holds Try.pinned (OpenSpec.ofChange fnExactIsValidPathWrong)

/-- 'laws.FnExactFirstCollision': WHATEVER THE INPUT: true; the input reads as it did. -/
def fnExactFirstCollisionSpec : ChangeSpec := { name := "fnExactFirstCollision", fn := fun _ => fun
  | [d1, d2, d3] => { results := [.lit (.bool true)], args := [d1, d2, d3] }
  | _ => none }
def fnExactFirstCollisionRow : OpenClaim := { program := "ytbpccdbkaiigcaa", sum := "17e910ffc622985c4f141732824e5a4f436077e6b96b1b2cf6ac64b6c6ec3faf", func := "loop.example/g00906/laws.FnExactFirstCollision", spec := "fnExactFirstCollision", plainKeys := false, apart := false }
def FnExactFirstCollisionSaid : Prop := fnExactFirstCollisionRow.holds Try.pinned (OpenSpec.ofChange fnExactFirstCollisionSpec)

/-- ITS FALSE NEIGHBOUR: 'it returns false'. Refute it at one input. -/
def fnExactFirstCollisionWrong : ChangeSpec := { name := "fnExactFirstCollision", fn := fun _ => fun
  | [d1, d2, d3] => { results := [.lit (.bool false)], args := [d1, d2, d3] }
  | _ => none }
def FnExactFirstCollisionWrongFalsely : Prop := fnExactFirstCollisionRow.holds Try.pinned (OpenSpec.ofChange fnExactFirstCollisionWrong)

/-- 'laws.FnExactWaitMinutes': WHATEVER THE INPUT: true; the input reads as it did. -/
def fnExactWaitMinutesSpec : ChangeSpec := { name := "fnExactWaitMinutes", fn := fun _ => fun
  | [d1, d2] => { results := [.lit (.bool true)], args := [d1, d2] }
  | _ => none }
def fnExactWaitMinutesRow : OpenClaim := { program := "ytbpccdbkaiigcaa", sum := "17e910ffc622985c4f141732824e5a4f436077e6b96b1b2cf6ac64b6c6ec3faf", func := "loop.example/g00906/laws.FnExactWaitMinutes", spec := "fnExactWaitMinutes", plainKeys := false, apart := false }
def FnExactWaitMinutesSaid : Prop := fnExactWaitMinutesRow.holds Try.pinned (OpenSpec.ofChange fnExactWaitMinutesSpec)

/-- ITS FALSE NEIGHBOUR: 'it returns false'. Refute it at one input. -/
def fnExactWaitMinutesWrong : ChangeSpec := { name := "fnExactWaitMinutes", fn := fun _ => fun
  | [d1, d2] => { results := [.lit (.bool false)], args := [d1, d2] }
  | _ => none }
def FnExactWaitMinutesWrongFalsely : Prop := fnExactWaitMinutesRow.holds Try.pinned (OpenSpec.ofChange fnExactWaitMinutesWrong)

/-- 'laws.FnExactPathLengthTo': WHATEVER THE INPUT: true; the input reads as it did. -/
def fnExactPathLengthToSpec : ChangeSpec := { name := "fnExactPathLengthTo", fn := fun _ => fun
  | [d1, d2] => { results := [.lit (.bool true)], args := [d1, d2] }
  | _ => none }
def fnExactPathLengthToRow : OpenClaim := { program := "ytbpccdbkaiigcaa", sum := "17e910ffc622985c4f141732824e5a4f436077e6b96b1b2cf6ac64b6c6ec3faf", func := "loop.example/g00906/laws.FnExactPathLengthTo", spec := "fnExactPathLengthTo", plainKeys := false, apart := false }
def FnExactPathLengthToSaid : Prop := fnExactPathLengthToRow.holds Try.pinned (OpenSpec.ofChange fnExactPathLengthToSpec)

/-- ITS FALSE NEIGHBOUR: 'it returns false'. Refute it at one input. -/
def fnExactPathLengthToWrong : ChangeSpec := { name := "fnExactPathLengthTo", fn := fun _ => fun
  | [d1, d2] => { results := [.lit (.bool false)], args := [d1, d2] }
  | _ => none }
def FnExactPathLengthToWrongFalsely : Prop := fnExactPathLengthToRow.holds Try.pinned (OpenSpec.ofChange fnExactPathLengthToWrong)

/-- 'laws.FnExactShortestPath': WHATEVER THE INPUT: true; the input reads as it did. -/
def fnExactShortestPathSpec : ChangeSpec := { name := "fnExactShortestPath", fn := fun _ => fun
  | [d1, d2, d3] => { results := [.lit (.bool true)], args := [d1, d2, d3] }
  | _ => none }
def fnExactShortestPathRow : OpenClaim := { program := "ytbpccdbkaiigcaa", sum := "17e910ffc622985c4f141732824e5a4f436077e6b96b1b2cf6ac64b6c6ec3faf", func := "loop.example/g00906/laws.FnExactShortestPath", spec := "fnExactShortestPath", plainKeys := false, apart := false }
def FnExactShortestPathSaid : Prop := fnExactShortestPathRow.holds Try.pinned (OpenSpec.ofChange fnExactShortestPathSpec)

/-- ITS FALSE NEIGHBOUR: 'it returns false'. Refute it at one input. -/
def fnExactShortestPathWrong : ChangeSpec := { name := "fnExactShortestPath", fn := fun _ => fun
  | [d1, d2, d3] => { results := [.lit (.bool false)], args := [d1, d2, d3] }
  | _ => none }
def FnExactShortestPathWrongFalsely : Prop := fnExactShortestPathRow.holds Try.pinned (OpenSpec.ofChange fnExactShortestPathWrong)

/-- 'laws.FnExactSafePath': WHATEVER THE INPUT: true; the input reads as it did. -/
def fnExactSafePathSpec : ChangeSpec := { name := "fnExactSafePath", fn := fun _ => fun
  | [d1, d2, d3, d4] => { results := [.lit (.bool true)], args := [d1, d2, d3, d4] }
  | _ => none }
def fnExactSafePathRow : OpenClaim := { program := "ytbpccdbkaiigcaa", sum := "17e910ffc622985c4f141732824e5a4f436077e6b96b1b2cf6ac64b6c6ec3faf", func := "loop.example/g00906/laws.FnExactSafePath", spec := "fnExactSafePath", unfollowed := true, recurses := true, plainKeys := false, apart := false }
def FnExactSafePathSaid : Prop := fnExactSafePathRow.holds Try.pinned (OpenSpec.ofChange fnExactSafePathSpec)

/-- ITS FALSE NEIGHBOUR: 'it returns false'. Refute it at one input. -/
def fnExactSafePathWrong : ChangeSpec := { name := "fnExactSafePath", fn := fun _ => fun
  | [d1, d2, d3, d4] => { results := [.lit (.bool false)], args := [d1, d2, d3, d4] }
  | _ => none }
def FnExactSafePathWrongFalsely : Prop := fnExactSafePathRow.holds Try.pinned (OpenSpec.ofChange fnExactSafePathWrong)

/-- 'laws.FnExactPlanFleet': WHATEVER THE INPUT: true; the input reads as it did. -/
def fnExactPlanFleetSpec : ChangeSpec := { name := "fnExactPlanFleet", fn := fun _ => fun
  | [d1, d2, d3] => { results := [.lit (.bool true)], args := [d1, d2, d3] }
  | _ => none }
def fnExactPlanFleetRow : OpenClaim := { program := "ytbpccdbkaiigcaa", sum := "17e910ffc622985c4f141732824e5a4f436077e6b96b1b2cf6ac64b6c6ec3faf", func := "loop.example/g00906/laws.FnExactPlanFleet", spec := "fnExactPlanFleet", unfollowed := true, recurses := true, plainKeys := false, apart := false }
def FnExactPlanFleetSaid : Prop := fnExactPlanFleetRow.holds Try.pinned (OpenSpec.ofChange fnExactPlanFleetSpec)

/-- ITS FALSE NEIGHBOUR: 'it returns false'. Refute it at one input. -/
def fnExactPlanFleetWrong : ChangeSpec := { name := "fnExactPlanFleet", fn := fun _ => fun
  | [d1, d2, d3] => { results := [.lit (.bool false)], args := [d1, d2, d3] }
  | _ => none }
def FnExactPlanFleetWrongFalsely : Prop := fnExactPlanFleetRow.holds Try.pinned (OpenSpec.ofChange fnExactPlanFleetWrong)

/-- 'laws.FnPaths': WHATEVER THE INPUT: true; the input reads as it did. -/
def fnPathsSpec : ChangeSpec := { name := "fnPaths", fn := fun _ => fun
  | [d] => { results := [.lit (.bool true)], args := [d] }
  | _ => none }
def fnPathsRow : OpenClaim := { program := "ytbpccdbkaiigcaa", sum := "17e910ffc622985c4f141732824e5a4f436077e6b96b1b2cf6ac64b6c6ec3faf", func := "loop.example/g00906/laws.FnPaths", spec := "fnPaths", unfollowed := true, recurses := true, plainKeys := false, apart := false }
def FnPathsSaid : Prop := fnPathsRow.holds Try.pinned (OpenSpec.ofChange fnPathsSpec)

/-- ITS FALSE NEIGHBOUR: 'it returns false'. Refute it at one input. -/
def fnPathsWrong : ChangeSpec := { name := "fnPaths", fn := fun _ => fun
  | [d] => { results := [.lit (.bool false)], args := [d] }
  | _ => none }
def FnPathsWrongFalsely : Prop := fnPathsRow.holds Try.pinned (OpenSpec.ofChange fnPathsWrong)

/-- 'laws.FnFleets': WHATEVER THE INPUT: true; the input reads as it did. -/
def fnFleetsSpec : ChangeSpec := { name := "fnFleets", fn := fun _ => fun
  | [d] => { results := [.lit (.bool true)], args := [d] }
  | _ => none }
def fnFleetsRow : OpenClaim := { program := "ytbpccdbkaiigcaa", sum := "17e910ffc622985c4f141732824e5a4f436077e6b96b1b2cf6ac64b6c6ec3faf", func := "loop.example/g00906/laws.FnFleets", spec := "fnFleets", unfollowed := true, recurses := true, plainKeys := false, apart := false }
def FnFleetsSaid : Prop := fnFleetsRow.holds Try.pinned (OpenSpec.ofChange fnFleetsSpec)

/-- ITS FALSE NEIGHBOUR: 'it returns false'. Refute it at one input. -/
def fnFleetsWrong : ChangeSpec := { name := "fnFleets", fn := fun _ => fun
  | [d] => { results := [.lit (.bool false)], args := [d] }
  | _ => none }
def FnFleetsWrongFalsely : Prop := fnFleetsRow.holds Try.pinned (OpenSpec.ofChange fnFleetsWrong)

/- THE SECOND FORM. 'bulk': how many values and letters a reading holds, each counted each time it is reached (what is shared counts as often as it is met; a slice's spare places count too). A statement '..UptoSaid' is the law's where the arguments, and the package variables that the reading takes, are together of bulk at most 1048576: NARROWER than '..Said'. Prove '..Said' where nothing that the law and all that it calls make is longer than what came in: it says more and counts as full. Else prove '..UptoSaid'. A law counts once. -/
mutual
def uptoBulk {H : Type} : DataW H → Nat
  | .lit (.string bytes) => bytes.length + 1
  | .lit _ => 1
  | .nil => 1
  | .ptr d => uptoBulk d + 1
  | .slice elems spare => uptoBulkAll elems + uptoBulkAll spare + 1
  | .agg parts => uptoBulkAll parts + 1
  | .iface _ d => uptoBulk d + 1
  | .map entries => uptoBulkEntries entries + 1
  | .held _ => 1
def uptoBulkAll {H : Type} : List (DataW H) → Nat
  | [] => 0
  | d :: r => uptoBulk d + uptoBulkAll r
def uptoBulkEntries {H : Type} : List (Lit × DataW H) → Nat
  | [] => 0
  | x :: r => uptoBulkEntry x + uptoBulkEntries r
def uptoBulkEntry {H : Type} : Lit × DataW H → Nat
  | (.string bytes, d) => bytes.length + uptoBulk d + 1
  | (_, d) => uptoBulk d + 1
 end
def uptoSmall : (H : Type) → List (DataW H) → Bool := fun _ ds => decide (uptoBulkAll ds ≤ 1048576)
def OpenSpec.upto (s : _root_.Go.ChangeSpec) : _root_.Go.OpenSpec := { _root_.Go.OpenSpec.ofChange s with cond := some uptoSmall }

/-- 'laws.FnExactIsValidFloor', WHERE WHAT IT READS IS OF BULK AT MOST 1048576: true; the input reads as it did. -/
def fnExactIsValidFloorUptoRow : OpenClaim := { program := "ytbpccdbkaiigcaa", sum := "17e910ffc622985c4f141732824e5a4f436077e6b96b1b2cf6ac64b6c6ec3faf", func := "loop.example/g00906/laws.FnExactIsValidFloor", spec := "fnExactIsValidFloor", plainKeys := false, apart := false, narrowed := true }
def FnExactIsValidFloorUptoSaid : Prop := fnExactIsValidFloorUptoRow.holds Try.pinned (OpenSpec.upto fnExactIsValidFloorSpec)

/-- 'laws.FnExactIsValidPath', WHERE WHAT IT READS IS OF BULK AT MOST 1048576: true; the input reads as it did. -/
def fnExactIsValidPathUptoRow : OpenClaim := { program := "ytbpccdbkaiigcaa", sum := "17e910ffc622985c4f141732824e5a4f436077e6b96b1b2cf6ac64b6c6ec3faf", func := "loop.example/g00906/laws.FnExactIsValidPath", spec := "fnExactIsValidPath", plainKeys := false, apart := false, narrowed := true }
def FnExactIsValidPathUptoSaid : Prop := fnExactIsValidPathUptoRow.holds Try.pinned (OpenSpec.upto fnExactIsValidPathSpec)

/-- 'laws.FnExactFirstCollision', WHERE WHAT IT READS IS OF BULK AT MOST 1048576: true; the input reads as it did. -/
def fnExactFirstCollisionUptoRow : OpenClaim := { program := "ytbpccdbkaiigcaa", sum := "17e910ffc622985c4f141732824e5a4f436077e6b96b1b2cf6ac64b6c6ec3faf", func := "loop.example/g00906/laws.FnExactFirstCollision", spec := "fnExactFirstCollision", plainKeys := false, apart := false, narrowed := true }
def FnExactFirstCollisionUptoSaid : Prop := fnExactFirstCollisionUptoRow.holds Try.pinned (OpenSpec.upto fnExactFirstCollisionSpec)

/-- 'laws.FnExactWaitMinutes', WHERE WHAT IT READS IS OF BULK AT MOST 1048576: true; the input reads as it did. -/
def fnExactWaitMinutesUptoRow : OpenClaim := { program := "ytbpccdbkaiigcaa", sum := "17e910ffc622985c4f141732824e5a4f436077e6b96b1b2cf6ac64b6c6ec3faf", func := "loop.example/g00906/laws.FnExactWaitMinutes", spec := "fnExactWaitMinutes", plainKeys := false, apart := false, narrowed := true }
def FnExactWaitMinutesUptoSaid : Prop := fnExactWaitMinutesUptoRow.holds Try.pinned (OpenSpec.upto fnExactWaitMinutesSpec)

/-- 'laws.FnExactPathLengthTo', WHERE WHAT IT READS IS OF BULK AT MOST 1048576: true; the input reads as it did. -/
def fnExactPathLengthToUptoRow : OpenClaim := { program := "ytbpccdbkaiigcaa", sum := "17e910ffc622985c4f141732824e5a4f436077e6b96b1b2cf6ac64b6c6ec3faf", func := "loop.example/g00906/laws.FnExactPathLengthTo", spec := "fnExactPathLengthTo", plainKeys := false, apart := false, narrowed := true }
def FnExactPathLengthToUptoSaid : Prop := fnExactPathLengthToUptoRow.holds Try.pinned (OpenSpec.upto fnExactPathLengthToSpec)

/-- 'laws.FnExactShortestPath', WHERE WHAT IT READS IS OF BULK AT MOST 1048576: true; the input reads as it did. -/
def fnExactShortestPathUptoRow : OpenClaim := { program := "ytbpccdbkaiigcaa", sum := "17e910ffc622985c4f141732824e5a4f436077e6b96b1b2cf6ac64b6c6ec3faf", func := "loop.example/g00906/laws.FnExactShortestPath", spec := "fnExactShortestPath", plainKeys := false, apart := false, narrowed := true }
def FnExactShortestPathUptoSaid : Prop := fnExactShortestPathUptoRow.holds Try.pinned (OpenSpec.upto fnExactShortestPathSpec)

/-- 'laws.FnExactSafePath', WHERE WHAT IT READS IS OF BULK AT MOST 1048576: true; the input reads as it did. -/
def fnExactSafePathUptoRow : OpenClaim := { program := "ytbpccdbkaiigcaa", sum := "17e910ffc622985c4f141732824e5a4f436077e6b96b1b2cf6ac64b6c6ec3faf", func := "loop.example/g00906/laws.FnExactSafePath", spec := "fnExactSafePath", unfollowed := true, recurses := true, plainKeys := false, apart := false, narrowed := true }
def FnExactSafePathUptoSaid : Prop := fnExactSafePathUptoRow.holds Try.pinned (OpenSpec.upto fnExactSafePathSpec)

/-- 'laws.FnExactPlanFleet', WHERE WHAT IT READS IS OF BULK AT MOST 1048576: true; the input reads as it did. -/
def fnExactPlanFleetUptoRow : OpenClaim := { program := "ytbpccdbkaiigcaa", sum := "17e910ffc622985c4f141732824e5a4f436077e6b96b1b2cf6ac64b6c6ec3faf", func := "loop.example/g00906/laws.FnExactPlanFleet", spec := "fnExactPlanFleet", unfollowed := true, recurses := true, plainKeys := false, apart := false, narrowed := true }
def FnExactPlanFleetUptoSaid : Prop := fnExactPlanFleetUptoRow.holds Try.pinned (OpenSpec.upto fnExactPlanFleetSpec)

/-- 'laws.FnPaths', WHERE WHAT IT READS IS OF BULK AT MOST 1048576: true; the input reads as it did. -/
def fnPathsUptoRow : OpenClaim := { program := "ytbpccdbkaiigcaa", sum := "17e910ffc622985c4f141732824e5a4f436077e6b96b1b2cf6ac64b6c6ec3faf", func := "loop.example/g00906/laws.FnPaths", spec := "fnPaths", unfollowed := true, recurses := true, plainKeys := false, apart := false, narrowed := true }
def FnPathsUptoSaid : Prop := fnPathsUptoRow.holds Try.pinned (OpenSpec.upto fnPathsSpec)

/-- 'laws.FnFleets', WHERE WHAT IT READS IS OF BULK AT MOST 1048576: true; the input reads as it did. -/
def fnFleetsUptoRow : OpenClaim := { program := "ytbpccdbkaiigcaa", sum := "17e910ffc622985c4f141732824e5a4f436077e6b96b1b2cf6ac64b6c6ec3faf", func := "loop.example/g00906/laws.FnFleets", spec := "fnFleets", unfollowed := true, recurses := true, plainKeys := false, apart := false, narrowed := true }
def FnFleetsUptoSaid : Prop := fnFleetsUptoRow.holds Try.pinned (OpenSpec.upto fnFleetsSpec)

end Rows
end Go.Proofs.Ytbpccdbkaiigcaa
