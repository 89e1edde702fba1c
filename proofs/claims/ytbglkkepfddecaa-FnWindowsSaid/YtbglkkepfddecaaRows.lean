/-
  No cell of these rows narrows 'for every input' (looked for: loops, veiled, ifaces, maps, wideKeys, modest, calm, conditions, laid).
  DERIVED. THE GIVEN ROWS OF THIS SEAT. 11 by the template 'for every input the law returns true; each argument reads behind the call as it read before'; 0 by the template 'total and deterministic' (their statements: YtbglkkepfddecaaTotals.lean).
  GIVEN WITH THE SEED: the statements are not yours to turn. If you find one false, say at which input.
  Laid BY PROGRAM, IN A SANDBOX (cutbox-rows.mjs): the forced cells as the released guide's own fill.sh prints them over the translation e12d26b5b64bf241… (all of the seat's roots in one cut). By AI agents, Wed Nov 11 2026. No macro, syntax, notation, axiom, sorry.
-/
import Derived.Test.YtbglkkepfddecaaChecked
import GoSem.Claim
import GoSem.ClaimJoined
import GoSem.ClaimMapViews
import Derived.JoinedTies
import Derived.KernelRfl
namespace Go.Proofs.Ytbglkkepfddecaa
/- THE CELL 'sum', in the pinned program and in every row, IS THE sha256 OF THE DUMP (.gsa) THAT YtbglkkepfddecaaProg.lean LOADS. Nothing in Lean hashes anything: it is a label: what it is worth is what the hold of that sum in a sandbox is worth. -/
noncomputable def Try.pinned : Pinned := { name := "ytbglkkepfddecaa", sum := "e12d26b5b64bf2412569fbdb0053becfe4c5d887ee6c5f0fedf410841bdedc84", checked := Try.checked }
namespace Rows
def none {H : Type} : Left H := { results := [], args := [] }

/-- 'laws.FnExactIsValidTides': WHATEVER THE INPUT: true; the input reads as it did. -/
def fnExactIsValidTidesSpec : ChangeSpec := { name := "fnExactIsValidTides", fn := fun _ => fun
  | [d] => { results := [.lit (.bool true)], args := [d] }
  | _ => none }
def fnExactIsValidTidesRow : OpenClaim := { program := "ytbglkkepfddecaa", sum := "e12d26b5b64bf2412569fbdb0053becfe4c5d887ee6c5f0fedf410841bdedc84", func := "loop.example/g00906/laws.FnExactIsValidTides", spec := "fnExactIsValidTides", apart := false }
def FnExactIsValidTidesSaid : Prop := fnExactIsValidTidesRow.holds Try.pinned (OpenSpec.ofChange fnExactIsValidTidesSpec)

/-- ITS FALSE NEIGHBOUR: 'it returns false'. Refute it at one input. -/
def fnExactIsValidTidesWrong : ChangeSpec := { name := "fnExactIsValidTides", fn := fun _ => fun
  | [d] => { results := [.lit (.bool false)], args := [d] }
  | _ => none }
def FnExactIsValidTidesWrongFalsely : Prop := fnExactIsValidTidesRow.holds Try.pinned (OpenSpec.ofChange fnExactIsValidTidesWrong)

/-- 'laws.FnExactShiftTides': WHATEVER THE INPUT: true; the input reads as it did. -/
def fnExactShiftTidesSpec : ChangeSpec := { name := "fnExactShiftTides", fn := fun _ => fun
  | [d1, d2, d3] => { results := [.lit (.bool true)], args := [d1, d2, d3] }
  | _ => none }
def fnExactShiftTidesRow : OpenClaim := { program := "ytbglkkepfddecaa", sum := "e12d26b5b64bf2412569fbdb0053becfe4c5d887ee6c5f0fedf410841bdedc84", func := "loop.example/g00906/laws.FnExactShiftTides", spec := "fnExactShiftTides", apart := false }
def FnExactShiftTidesSaid : Prop := fnExactShiftTidesRow.holds Try.pinned (OpenSpec.ofChange fnExactShiftTidesSpec)

/-- ITS FALSE NEIGHBOUR: 'it returns false'. Refute it at one input. -/
def fnExactShiftTidesWrong : ChangeSpec := { name := "fnExactShiftTides", fn := fun _ => fun
  | [d1, d2, d3] => { results := [.lit (.bool false)], args := [d1, d2, d3] }
  | _ => none }
def FnExactShiftTidesWrongFalsely : Prop := fnExactShiftTidesRow.holds Try.pinned (OpenSpec.ofChange fnExactShiftTidesWrong)

/-- 'laws.FnExactMeanHeight': WHATEVER THE INPUT: true; the input reads as it did. -/
def fnExactMeanHeightSpec : ChangeSpec := { name := "fnExactMeanHeight", fn := fun _ => fun
  | [d] => { results := [.lit (.bool true)], args := [d] }
  | _ => none }
def fnExactMeanHeightRow : OpenClaim := { program := "ytbglkkepfddecaa", sum := "e12d26b5b64bf2412569fbdb0053becfe4c5d887ee6c5f0fedf410841bdedc84", func := "loop.example/g00906/laws.FnExactMeanHeight", spec := "fnExactMeanHeight", apart := false }
def FnExactMeanHeightSaid : Prop := fnExactMeanHeightRow.holds Try.pinned (OpenSpec.ofChange fnExactMeanHeightSpec)

/-- ITS FALSE NEIGHBOUR: 'it returns false'. Refute it at one input. -/
def fnExactMeanHeightWrong : ChangeSpec := { name := "fnExactMeanHeight", fn := fun _ => fun
  | [d] => { results := [.lit (.bool false)], args := [d] }
  | _ => none }
def FnExactMeanHeightWrongFalsely : Prop := fnExactMeanHeightRow.holds Try.pinned (OpenSpec.ofChange fnExactMeanHeightWrong)

/-- 'laws.FnExactGreatestDraft': WHATEVER THE INPUT: true; the input reads as it did. -/
def fnExactGreatestDraftSpec : ChangeSpec := { name := "fnExactGreatestDraft", fn := fun _ => fun
  | [d1, d2, d3, d4] => { results := [.lit (.bool true)], args := [d1, d2, d3, d4] }
  | _ => none }
def fnExactGreatestDraftRow : OpenClaim := { program := "ytbglkkepfddecaa", sum := "e12d26b5b64bf2412569fbdb0053becfe4c5d887ee6c5f0fedf410841bdedc84", func := "loop.example/g00906/laws.FnExactGreatestDraft", spec := "fnExactGreatestDraft", apart := false }
def FnExactGreatestDraftSaid : Prop := fnExactGreatestDraftRow.holds Try.pinned (OpenSpec.ofChange fnExactGreatestDraftSpec)

/-- ITS FALSE NEIGHBOUR: 'it returns false'. Refute it at one input. -/
def fnExactGreatestDraftWrong : ChangeSpec := { name := "fnExactGreatestDraft", fn := fun _ => fun
  | [d1, d2, d3, d4] => { results := [.lit (.bool false)], args := [d1, d2, d3, d4] }
  | _ => none }
def FnExactGreatestDraftWrongFalsely : Prop := fnExactGreatestDraftRow.holds Try.pinned (OpenSpec.ofChange fnExactGreatestDraftWrong)

/-- 'laws.FnExactSteepestChange': WHATEVER THE INPUT: true; the input reads as it did. -/
def fnExactSteepestChangeSpec : ChangeSpec := { name := "fnExactSteepestChange", fn := fun _ => fun
  | [d] => { results := [.lit (.bool true)], args := [d] }
  | _ => none }
def fnExactSteepestChangeRow : OpenClaim := { program := "ytbglkkepfddecaa", sum := "e12d26b5b64bf2412569fbdb0053becfe4c5d887ee6c5f0fedf410841bdedc84", func := "loop.example/g00906/laws.FnExactSteepestChange", spec := "fnExactSteepestChange", apart := false }
def FnExactSteepestChangeSaid : Prop := fnExactSteepestChangeRow.holds Try.pinned (OpenSpec.ofChange fnExactSteepestChangeSpec)

/-- ITS FALSE NEIGHBOUR: 'it returns false'. Refute it at one input. -/
def fnExactSteepestChangeWrong : ChangeSpec := { name := "fnExactSteepestChange", fn := fun _ => fun
  | [d] => { results := [.lit (.bool false)], args := [d] }
  | _ => none }
def FnExactSteepestChangeWrongFalsely : Prop := fnExactSteepestChangeRow.holds Try.pinned (OpenSpec.ofChange fnExactSteepestChangeWrong)

/-- 'laws.FnExactTurningHours': WHATEVER THE INPUT: true; the input reads as it did. -/
def fnExactTurningHoursSpec : ChangeSpec := { name := "fnExactTurningHours", fn := fun _ => fun
  | [d1, d2] => { results := [.lit (.bool true)], args := [d1, d2] }
  | _ => none }
def fnExactTurningHoursRow : OpenClaim := { program := "ytbglkkepfddecaa", sum := "e12d26b5b64bf2412569fbdb0053becfe4c5d887ee6c5f0fedf410841bdedc84", func := "loop.example/g00906/laws.FnExactTurningHours", spec := "fnExactTurningHours", apart := false }
def FnExactTurningHoursSaid : Prop := fnExactTurningHoursRow.holds Try.pinned (OpenSpec.ofChange fnExactTurningHoursSpec)

/-- ITS FALSE NEIGHBOUR: 'it returns false'. Refute it at one input. -/
def fnExactTurningHoursWrong : ChangeSpec := { name := "fnExactTurningHours", fn := fun _ => fun
  | [d1, d2] => { results := [.lit (.bool false)], args := [d1, d2] }
  | _ => none }
def FnExactTurningHoursWrongFalsely : Prop := fnExactTurningHoursRow.holds Try.pinned (OpenSpec.ofChange fnExactTurningHoursWrong)

/-- 'laws.FnExactShipWindow': WHATEVER THE INPUT: true; the input reads as it did. -/
def fnExactShipWindowSpec : ChangeSpec := { name := "fnExactShipWindow", fn := fun _ => fun
  | [d1, d2, d3, d4, d5] => { results := [.lit (.bool true)], args := [d1, d2, d3, d4, d5] }
  | _ => none }
def fnExactShipWindowRow : OpenClaim := { program := "ytbglkkepfddecaa", sum := "e12d26b5b64bf2412569fbdb0053becfe4c5d887ee6c5f0fedf410841bdedc84", func := "loop.example/g00906/laws.FnExactShipWindow", spec := "fnExactShipWindow", apart := false }
def FnExactShipWindowSaid : Prop := fnExactShipWindowRow.holds Try.pinned (OpenSpec.ofChange fnExactShipWindowSpec)

/-- ITS FALSE NEIGHBOUR: 'it returns false'. Refute it at one input. -/
def fnExactShipWindowWrong : ChangeSpec := { name := "fnExactShipWindow", fn := fun _ => fun
  | [d1, d2, d3, d4, d5] => { results := [.lit (.bool false)], args := [d1, d2, d3, d4, d5] }
  | _ => none }
def FnExactShipWindowWrongFalsely : Prop := fnExactShipWindowRow.holds Try.pinned (OpenSpec.ofChange fnExactShipWindowWrong)

/-- 'laws.FnExactHeightAt': WHATEVER THE INPUT: true; the input reads as it did. -/
def fnExactHeightAtSpec : ChangeSpec := { name := "fnExactHeightAt", fn := fun _ => fun
  | [d1, d2] => { results := [.lit (.bool true)], args := [d1, d2] }
  | _ => none }
def fnExactHeightAtRow : OpenClaim := { program := "ytbglkkepfddecaa", sum := "e12d26b5b64bf2412569fbdb0053becfe4c5d887ee6c5f0fedf410841bdedc84", func := "loop.example/g00906/laws.FnExactHeightAt", spec := "fnExactHeightAt", apart := false }
def FnExactHeightAtSaid : Prop := fnExactHeightAtRow.holds Try.pinned (OpenSpec.ofChange fnExactHeightAtSpec)

/-- ITS FALSE NEIGHBOUR: 'it returns false'. Refute it at one input. -/
def fnExactHeightAtWrong : ChangeSpec := { name := "fnExactHeightAt", fn := fun _ => fun
  | [d1, d2] => { results := [.lit (.bool false)], args := [d1, d2] }
  | _ => none }
def FnExactHeightAtWrongFalsely : Prop := fnExactHeightAtRow.holds Try.pinned (OpenSpec.ofChange fnExactHeightAtWrong)

/-- 'laws.FnExactDeepWindows': WHATEVER THE INPUT: true; the input reads as it did. -/
def fnExactDeepWindowsSpec : ChangeSpec := { name := "fnExactDeepWindows", fn := fun _ => fun
  | [d1, d2] => { results := [.lit (.bool true)], args := [d1, d2] }
  | _ => none }
def fnExactDeepWindowsRow : OpenClaim := { program := "ytbglkkepfddecaa", sum := "e12d26b5b64bf2412569fbdb0053becfe4c5d887ee6c5f0fedf410841bdedc84", func := "loop.example/g00906/laws.FnExactDeepWindows", spec := "fnExactDeepWindows", apart := false }
def FnExactDeepWindowsSaid : Prop := fnExactDeepWindowsRow.holds Try.pinned (OpenSpec.ofChange fnExactDeepWindowsSpec)

/-- ITS FALSE NEIGHBOUR: 'it returns false'. Refute it at one input. -/
def fnExactDeepWindowsWrong : ChangeSpec := { name := "fnExactDeepWindows", fn := fun _ => fun
  | [d1, d2] => { results := [.lit (.bool false)], args := [d1, d2] }
  | _ => none }
def FnExactDeepWindowsWrongFalsely : Prop := fnExactDeepWindowsRow.holds Try.pinned (OpenSpec.ofChange fnExactDeepWindowsWrong)

/-- 'laws.FnTides': WHATEVER THE INPUT: true; the input reads as it did. -/
def fnTidesSpec : ChangeSpec := { name := "fnTides", fn := fun _ => fun
  | [d] => { results := [.lit (.bool true)], args := [d] }
  | _ => none }
def fnTidesRow : OpenClaim := { program := "ytbglkkepfddecaa", sum := "e12d26b5b64bf2412569fbdb0053becfe4c5d887ee6c5f0fedf410841bdedc84", func := "loop.example/g00906/laws.FnTides", spec := "fnTides", apart := false }
def FnTidesSaid : Prop := fnTidesRow.holds Try.pinned (OpenSpec.ofChange fnTidesSpec)

/-- ITS FALSE NEIGHBOUR: 'it returns false'. Refute it at one input. -/
def fnTidesWrong : ChangeSpec := { name := "fnTides", fn := fun _ => fun
  | [d] => { results := [.lit (.bool false)], args := [d] }
  | _ => none }
def FnTidesWrongFalsely : Prop := fnTidesRow.holds Try.pinned (OpenSpec.ofChange fnTidesWrong)

/-- 'laws.FnWindows': WHATEVER THE INPUT: true; the input reads as it did. -/
def fnWindowsSpec : ChangeSpec := { name := "fnWindows", fn := fun _ => fun
  | [d] => { results := [.lit (.bool true)], args := [d] }
  | _ => none }
def fnWindowsRow : OpenClaim := { program := "ytbglkkepfddecaa", sum := "e12d26b5b64bf2412569fbdb0053becfe4c5d887ee6c5f0fedf410841bdedc84", func := "loop.example/g00906/laws.FnWindows", spec := "fnWindows", apart := false }
def FnWindowsSaid : Prop := fnWindowsRow.holds Try.pinned (OpenSpec.ofChange fnWindowsSpec)

/-- ITS FALSE NEIGHBOUR: 'it returns false'. Refute it at one input. -/
def fnWindowsWrong : ChangeSpec := { name := "fnWindows", fn := fun _ => fun
  | [d] => { results := [.lit (.bool false)], args := [d] }
  | _ => none }
def FnWindowsWrongFalsely : Prop := fnWindowsRow.holds Try.pinned (OpenSpec.ofChange fnWindowsWrong)

/- THE SECOND FORM. 'bulk': how many values and letters a reading holds, each counted each time it is reached (what is shared counts as often as it is met; a slice's spare places count too). A statement '..UptoSaid' is the law's where the arguments, and the package variables that the reading takes, are together of bulk at most 1048576: NARROWER than '..Said'. Prove '..Said' where nothing that the law and all that it calls make is longer than what came in: it says more and counts as full. Else prove '..UptoSaid'. A law counts once. -/
mutual
def uptoBulk {H : Type} : DataW H → Nat
  | .lit (.string bytes) => bytes.length + 1
  | .lit _ => 1
  | .nil => 1
  | .ptr d => uptoBulk d + 1
  | .slice elems spare => uptoBulkAll elems + uptoBulkAll spare + 1
  | .agg parts => uptoBulkAll parts + 1
  | .iface _ d => uptoBulk d + 1
  | .map entries => uptoBulkEntries entries + 1
  | .held _ => 1
def uptoBulkAll {H : Type} : List (DataW H) → Nat
  | [] => 0
  | d :: r => uptoBulk d + uptoBulkAll r
def uptoBulkEntries {H : Type} : List (Lit × DataW H) → Nat
  | [] => 0
  | x :: r => uptoBulkEntry x + uptoBulkEntries r
def uptoBulkEntry {H : Type} : Lit × DataW H → Nat
  | (.string bytes, d) => bytes.length + uptoBulk d + 1
  | (_, d) => uptoBulk d + 1
 end
def uptoSmall : (H : Type) → List (DataW H) → Bool := fun _ ds => decide (uptoBulkAll ds ≤ 1048576)
def OpenSpec.upto (s : _root_.Go.ChangeSpec) : _root_.Go.OpenSpec := { _root_.Go.OpenSpec.ofChange s with cond := some uptoSmall }

/-- 'laws.FnExactIsValidTides', WHERE WHAT IT READS IS OF BULK AT MOST 1048576: true; the input reads as it did. -/
def fnExactIsValidTidesUptoRow : OpenClaim := { program := "ytbglkkepfddecaa", sum := "e12d26b5b64bf2412569fbdb0053becfe4c5d887ee6c5f0fedf410841bdedc84", func := "loop.example/g00906/laws.FnExactIsValidTides", spec := "fnExactIsValidTides", apart := false, narrowed := true }
def FnExactIsValidTidesUptoSaid : Prop := fnExactIsValidTidesUptoRow.holds Try.pinned (OpenSpec.upto fnExactIsValidTidesSpec)

/-- 'laws.FnExactShiftTides', WHERE WHAT IT READS IS OF BULK AT MOST 1048576: true; the input reads as it did. -/
def fnExactShiftTidesUptoRow : OpenClaim := { program := "ytbglkkepfddecaa", sum := "e12d26b5b64bf2412569fbdb0053becfe4c5d887ee6c5f0fedf410841bdedc84", func := "loop.example/g00906/laws.FnExactShiftTides", spec := "fnExactShiftTides", apart := false, narrowed := true }
def FnExactShiftTidesUptoSaid : Prop := fnExactShiftTidesUptoRow.holds Try.pinned (OpenSpec.upto fnExactShiftTidesSpec)

/-- 'laws.FnExactMeanHeight', WHERE WHAT IT READS IS OF BULK AT MOST 1048576: true; the input reads as it did. -/
def fnExactMeanHeightUptoRow : OpenClaim := { program := "ytbglkkepfddecaa", sum := "e12d26b5b64bf2412569fbdb0053becfe4c5d887ee6c5f0fedf410841bdedc84", func := "loop.example/g00906/laws.FnExactMeanHeight", spec := "fnExactMeanHeight", apart := false, narrowed := true }
def FnExactMeanHeightUptoSaid : Prop := fnExactMeanHeightUptoRow.holds Try.pinned (OpenSpec.upto fnExactMeanHeightSpec)

/-- 'laws.FnExactGreatestDraft', WHERE WHAT IT READS IS OF BULK AT MOST 1048576: true; the input reads as it did. -/
def fnExactGreatestDraftUptoRow : OpenClaim := { program := "ytbglkkepfddecaa", sum := "e12d26b5b64bf2412569fbdb0053becfe4c5d887ee6c5f0fedf410841bdedc84", func := "loop.example/g00906/laws.FnExactGreatestDraft", spec := "fnExactGreatestDraft", apart := false, narrowed := true }
def FnExactGreatestDraftUptoSaid : Prop := fnExactGreatestDraftUptoRow.holds Try.pinned (OpenSpec.upto fnExactGreatestDraftSpec)

/-- 'laws.FnExactSteepestChange', WHERE WHAT IT READS IS OF BULK AT MOST 1048576: true; the input reads as it did. -/
def fnExactSteepestChangeUptoRow : OpenClaim := { program := "ytbglkkepfddecaa", sum := "e12d26b5b64bf2412569fbdb0053becfe4c5d887ee6c5f0fedf410841bdedc84", func := "loop.example/g00906/laws.FnExactSteepestChange", spec := "fnExactSteepestChange", apart := false, narrowed := true }
def FnExactSteepestChangeUptoSaid : Prop := fnExactSteepestChangeUptoRow.holds Try.pinned (OpenSpec.upto fnExactSteepestChangeSpec)

/-- 'laws.FnExactTurningHours', WHERE WHAT IT READS IS OF BULK AT MOST 1048576: true; the input reads as it did. -/
def fnExactTurningHoursUptoRow : OpenClaim := { program := "ytbglkkepfddecaa", sum := "e12d26b5b64bf2412569fbdb0053becfe4c5d887ee6c5f0fedf410841bdedc84", func := "loop.example/g00906/laws.FnExactTurningHours", spec := "fnExactTurningHours", apart := false, narrowed := true }
def FnExactTurningHoursUptoSaid : Prop := fnExactTurningHoursUptoRow.holds Try.pinned (OpenSpec.upto fnExactTurningHoursSpec)

/-- 'laws.FnExactShipWindow', WHERE WHAT IT READS IS OF BULK AT MOST 1048576: true; the input reads as it did. -/
def fnExactShipWindowUptoRow : OpenClaim := { program := "ytbglkkepfddecaa", sum := "e12d26b5b64bf2412569fbdb0053becfe4c5d887ee6c5f0fedf410841bdedc84", func := "loop.example/g00906/laws.FnExactShipWindow", spec := "fnExactShipWindow", apart := false, narrowed := true }
def FnExactShipWindowUptoSaid : Prop := fnExactShipWindowUptoRow.holds Try.pinned (OpenSpec.upto fnExactShipWindowSpec)

/-- 'laws.FnExactHeightAt', WHERE WHAT IT READS IS OF BULK AT MOST 1048576: true; the input reads as it did. -/
def fnExactHeightAtUptoRow : OpenClaim := { program := "ytbglkkepfddecaa", sum := "e12d26b5b64bf2412569fbdb0053becfe4c5d887ee6c5f0fedf410841bdedc84", func := "loop.example/g00906/laws.FnExactHeightAt", spec := "fnExactHeightAt", apart := false, narrowed := true }
def FnExactHeightAtUptoSaid : Prop := fnExactHeightAtUptoRow.holds Try.pinned (OpenSpec.upto fnExactHeightAtSpec)

/-- 'laws.FnExactDeepWindows', WHERE WHAT IT READS IS OF BULK AT MOST 1048576: true; the input reads as it did. -/
def fnExactDeepWindowsUptoRow : OpenClaim := { program := "ytbglkkepfddecaa", sum := "e12d26b5b64bf2412569fbdb0053becfe4c5d887ee6c5f0fedf410841bdedc84", func := "loop.example/g00906/laws.FnExactDeepWindows", spec := "fnExactDeepWindows", apart := false, narrowed := true }
def FnExactDeepWindowsUptoSaid : Prop := fnExactDeepWindowsUptoRow.holds Try.pinned (OpenSpec.upto fnExactDeepWindowsSpec)

/-- 'laws.FnTides', WHERE WHAT IT READS IS OF BULK AT MOST 1048576: true; the input reads as it did. -/
def fnTidesUptoRow : OpenClaim := { program := "ytbglkkepfddecaa", sum := "e12d26b5b64bf2412569fbdb0053becfe4c5d887ee6c5f0fedf410841bdedc84", func := "loop.example/g00906/laws.FnTides", spec := "fnTides", apart := false, narrowed := true }
def FnTidesUptoSaid : Prop := fnTidesUptoRow.holds Try.pinned (OpenSpec.upto fnTidesSpec)

/-- 'laws.FnWindows', WHERE WHAT IT READS IS OF BULK AT MOST 1048576: true; the input reads as it did. -/
def fnWindowsUptoRow : OpenClaim := { program := "ytbglkkepfddecaa", sum := "e12d26b5b64bf2412569fbdb0053becfe4c5d887ee6c5f0fedf410841bdedc84", func := "loop.example/g00906/laws.FnWindows", spec := "fnWindows", apart := false, narrowed := true }
def FnWindowsUptoSaid : Prop := fnWindowsUptoRow.holds Try.pinned (OpenSpec.upto fnWindowsSpec)

end Rows
end Go.Proofs.Ytbglkkepfddecaa
