/-
  No cell of these rows narrows 'for every input' (looked for: loops, veiled, ifaces, maps, wideKeys, modest, calm, conditions, laid).
  DERIVED. THE GIVEN ROWS OF THIS SEAT. 12 by the template 'for every input the law returns true; each argument reads behind the call as it read before'; 0 by the template 'total and deterministic' (their statements: YtbjdhipkdcfmlaaTotals.lean).
  GIVEN WITH THE SEED: the statements are not yours to turn. If you find one false, say at which input.
  Laid BY PROGRAM, IN A SANDBOX (cutbox-rows.mjs): the forced cells as the released guide's own fill.sh prints them over the translation 8927a17b433f5fc3… (all of the seat's roots in one cut). By AI agents, Wed Nov 11 2026. No macro, syntax, notation, axiom, sorry.
-/
import Derived.Test.YtbjdhipkdcfmlaaChecked
import GoSem.Claim
import GoSem.ClaimJoined
import GoSem.ClaimMapViews
import Derived.JoinedTies
import Derived.KernelRfl
namespace Go.Proofs.Ytbjdhipkdcfmlaa
/- THE CELL 'sum', in the pinned program and in every row, IS THE sha256 OF THE DUMP (.gsa) THAT YtbjdhipkdcfmlaaProg.lean LOADS. Nothing in Lean hashes anything: it is a label: what it is worth is what the hold of that sum in a sandbox is worth. -/
noncomputable def Try.pinned : Pinned := { name := "ytbjdhipkdcfmlaa", sum := "8927a17b433f5fc3019a6274e999b67b8cce7e06e02566a1603473ed446684c4", checked := Try.checked }
namespace Rows
def none {H : Type} : Left H := { results := [], args := [] }

/-- 'laws.FnExactIsState': WHATEVER THE INPUT: true; the input reads as it did. -/
def fnExactIsStateSpec : ChangeSpec := { name := "fnExactIsState", fn := fun _ => fun
  | [d] => { results := [.lit (.bool true)], args := [d] }
  | _ => none }
def fnExactIsStateRow : OpenClaim := { program := "ytbjdhipkdcfmlaa", sum := "8927a17b433f5fc3019a6274e999b67b8cce7e06e02566a1603473ed446684c4", func := "loop.example/g01126/laws.FnExactIsState", spec := "fnExactIsState", unfollowed := true, recurses := true, apart := false }
def FnExactIsStateSaid : Prop := fnExactIsStateRow.holds Try.pinned (OpenSpec.ofChange fnExactIsStateSpec)

/-- ITS FALSE NEIGHBOUR: 'it returns false'. Refute it at one input. -/
def fnExactIsStateWrong : ChangeSpec := { name := "fnExactIsState", fn := fun _ => fun
  | [d] => { results := [.lit (.bool false)], args := [d] }
  | _ => none }
def FnExactIsStateWrongFalsely : Prop := fnExactIsStateRow.holds Try.pinned (OpenSpec.ofChange fnExactIsStateWrong)

/-- 'laws.FnExactFewestSteps': WHATEVER THE INPUT: true; the input reads as it did. -/
def fnExactFewestStepsSpec : ChangeSpec := { name := "fnExactFewestSteps", fn := fun _ => fun
  | [d] => { results := [.lit (.bool true)], args := [d] }
  | _ => none }
def fnExactFewestStepsRow : OpenClaim := { program := "ytbjdhipkdcfmlaa", sum := "8927a17b433f5fc3019a6274e999b67b8cce7e06e02566a1603473ed446684c4", func := "loop.example/g01126/laws.FnExactFewestSteps", spec := "fnExactFewestSteps", unfollowed := true, recurses := true, apart := false }
def FnExactFewestStepsSaid : Prop := fnExactFewestStepsRow.holds Try.pinned (OpenSpec.ofChange fnExactFewestStepsSpec)

/-- ITS FALSE NEIGHBOUR: 'it returns false'. Refute it at one input. -/
def fnExactFewestStepsWrong : ChangeSpec := { name := "fnExactFewestSteps", fn := fun _ => fun
  | [d] => { results := [.lit (.bool false)], args := [d] }
  | _ => none }
def FnExactFewestStepsWrongFalsely : Prop := fnExactFewestStepsRow.holds Try.pinned (OpenSpec.ofChange fnExactFewestStepsWrong)

/-- 'laws.FnExactPairOfSteps': WHATEVER THE INPUT: true; the input reads as it did. -/
def fnExactPairOfStepsSpec : ChangeSpec := { name := "fnExactPairOfSteps", fn := fun _ => fun
  | [d] => { results := [.lit (.bool true)], args := [d] }
  | _ => none }
def fnExactPairOfStepsRow : OpenClaim := { program := "ytbjdhipkdcfmlaa", sum := "8927a17b433f5fc3019a6274e999b67b8cce7e06e02566a1603473ed446684c4", func := "loop.example/g01126/laws.FnExactPairOfSteps", spec := "fnExactPairOfSteps", inPlace := ["internal/bytealg.IndexByteString", "internal/bytealg.IndexString"], named := ["internal/bytealg.MaxLen"], apart := false }
def FnExactPairOfStepsSaid : Prop := fnExactPairOfStepsRow.holds Try.pinned (OpenSpec.ofChange fnExactPairOfStepsSpec)

/-- ITS FALSE NEIGHBOUR: 'it returns false'. Refute it at one input. -/
def fnExactPairOfStepsWrong : ChangeSpec := { name := "fnExactPairOfSteps", fn := fun _ => fun
  | [d] => { results := [.lit (.bool false)], args := [d] }
  | _ => none }
def FnExactPairOfStepsWrongFalsely : Prop := fnExactPairOfStepsRow.holds Try.pinned (OpenSpec.ofChange fnExactPairOfStepsWrong)

/-- 'laws.FnExactMirrorState': WHATEVER THE INPUT: true; the input reads as it did. -/
def fnExactMirrorStateSpec : ChangeSpec := { name := "fnExactMirrorState", fn := fun _ => fun
  | [d] => { results := [.lit (.bool true)], args := [d] }
  | _ => none }
def fnExactMirrorStateRow : OpenClaim := { program := "ytbjdhipkdcfmlaa", sum := "8927a17b433f5fc3019a6274e999b67b8cce7e06e02566a1603473ed446684c4", func := "loop.example/g01126/laws.FnExactMirrorState", spec := "fnExactMirrorState", unfollowed := true, recurses := true, apart := false }
def FnExactMirrorStateSaid : Prop := fnExactMirrorStateRow.holds Try.pinned (OpenSpec.ofChange fnExactMirrorStateSpec)

/-- ITS FALSE NEIGHBOUR: 'it returns false'. Refute it at one input. -/
def fnExactMirrorStateWrong : ChangeSpec := { name := "fnExactMirrorState", fn := fun _ => fun
  | [d] => { results := [.lit (.bool false)], args := [d] }
  | _ => none }
def FnExactMirrorStateWrongFalsely : Prop := fnExactMirrorStateRow.holds Try.pinned (OpenSpec.ofChange fnExactMirrorStateWrong)

/-- 'laws.FnExactStateBehind': WHATEVER THE INPUT: true; the input reads as it did. -/
def fnExactStateBehindSpec : ChangeSpec := { name := "fnExactStateBehind", fn := fun _ => fun
  | [d1, d2] => { results := [.lit (.bool true)], args := [d1, d2] }
  | _ => none }
def fnExactStateBehindRow : OpenClaim := { program := "ytbjdhipkdcfmlaa", sum := "8927a17b433f5fc3019a6274e999b67b8cce7e06e02566a1603473ed446684c4", func := "loop.example/g01126/laws.FnExactStateBehind", spec := "fnExactStateBehind", unfollowed := true, recurses := true, apart := false }
def FnExactStateBehindSaid : Prop := fnExactStateBehindRow.holds Try.pinned (OpenSpec.ofChange fnExactStateBehindSpec)

/-- ITS FALSE NEIGHBOUR: 'it returns false'. Refute it at one input. -/
def fnExactStateBehindWrong : ChangeSpec := { name := "fnExactStateBehind", fn := fun _ => fun
  | [d1, d2] => { results := [.lit (.bool false)], args := [d1, d2] }
  | _ => none }
def FnExactStateBehindWrongFalsely : Prop := fnExactStateBehindRow.holds Try.pinned (OpenSpec.ofChange fnExactStateBehindWrong)

/-- 'laws.FnExactStepState': WHATEVER THE INPUT: true; the input reads as it did. -/
def fnExactStepStateSpec : ChangeSpec := { name := "fnExactStepState", fn := fun _ => fun
  | [d1, d2] => { results := [.lit (.bool true)], args := [d1, d2] }
  | _ => none }
def fnExactStepStateRow : OpenClaim := { program := "ytbjdhipkdcfmlaa", sum := "8927a17b433f5fc3019a6274e999b67b8cce7e06e02566a1603473ed446684c4", func := "loop.example/g01126/laws.FnExactStepState", spec := "fnExactStepState", unfollowed := true, recurses := true, apart := false }
def FnExactStepStateSaid : Prop := fnExactStepStateRow.holds Try.pinned (OpenSpec.ofChange fnExactStepStateSpec)

/-- ITS FALSE NEIGHBOUR: 'it returns false'. Refute it at one input. -/
def fnExactStepStateWrong : ChangeSpec := { name := "fnExactStepState", fn := fun _ => fun
  | [d1, d2] => { results := [.lit (.bool false)], args := [d1, d2] }
  | _ => none }
def FnExactStepStateWrongFalsely : Prop := fnExactStepStateRow.holds Try.pinned (OpenSpec.ofChange fnExactStepStateWrong)

/-- 'laws.FnArchesPut': WHATEVER THE INPUT: true; the input reads as it did. -/
def fnArchesPutSpec : ChangeSpec := { name := "fnArchesPut", fn := fun _ => fun
  | [d1, d2] => { results := [.lit (.bool true)], args := [d1, d2] }
  | _ => none }
def fnArchesPutRow : OpenClaim := { program := "ytbjdhipkdcfmlaa", sum := "8927a17b433f5fc3019a6274e999b67b8cce7e06e02566a1603473ed446684c4", func := "loop.example/g01126/laws.FnArchesPut", spec := "fnArchesPut", unfollowed := true, recurses := true, apart := false }
def FnArchesPutSaid : Prop := fnArchesPutRow.holds Try.pinned (OpenSpec.ofChange fnArchesPutSpec)

/-- ITS FALSE NEIGHBOUR: 'it returns false'. Refute it at one input. -/
def fnArchesPutWrong : ChangeSpec := { name := "fnArchesPut", fn := fun _ => fun
  | [d1, d2] => { results := [.lit (.bool false)], args := [d1, d2] }
  | _ => none }
def FnArchesPutWrongFalsely : Prop := fnArchesPutRow.holds Try.pinned (OpenSpec.ofChange fnArchesPutWrong)

/-- 'laws.FnSystemsMoved': WHATEVER THE INPUT: true; the input reads as it did. -/
def fnSystemsMovedSpec : ChangeSpec := { name := "fnSystemsMoved", fn := fun _ => fun
  | [d1, d2] => { results := [.lit (.bool true)], args := [d1, d2] }
  | _ => none }
def fnSystemsMovedRow : OpenClaim := { program := "ytbjdhipkdcfmlaa", sum := "8927a17b433f5fc3019a6274e999b67b8cce7e06e02566a1603473ed446684c4", func := "loop.example/g01126/laws.FnSystemsMoved", spec := "fnSystemsMoved", unfollowed := true, recurses := true, apart := false }
def FnSystemsMovedSaid : Prop := fnSystemsMovedRow.holds Try.pinned (OpenSpec.ofChange fnSystemsMovedSpec)

/-- ITS FALSE NEIGHBOUR: 'it returns false'. Refute it at one input. -/
def fnSystemsMovedWrong : ChangeSpec := { name := "fnSystemsMoved", fn := fun _ => fun
  | [d1, d2] => { results := [.lit (.bool false)], args := [d1, d2] }
  | _ => none }
def FnSystemsMovedWrongFalsely : Prop := fnSystemsMovedRow.holds Try.pinned (OpenSpec.ofChange fnSystemsMovedWrong)

/-- 'laws.FnComponentsWalked': WHATEVER THE INPUT: true; the input reads as it did. -/
def fnComponentsWalkedSpec : ChangeSpec := { name := "fnComponentsWalked", fn := fun _ => fun
  | [d1, d2] => { results := [.lit (.bool true)], args := [d1, d2] }
  | _ => none }
def fnComponentsWalkedRow : OpenClaim := { program := "ytbjdhipkdcfmlaa", sum := "8927a17b433f5fc3019a6274e999b67b8cce7e06e02566a1603473ed446684c4", func := "loop.example/g01126/laws.FnComponentsWalked", spec := "fnComponentsWalked", apart := false }
def FnComponentsWalkedSaid : Prop := fnComponentsWalkedRow.holds Try.pinned (OpenSpec.ofChange fnComponentsWalkedSpec)

/-- ITS FALSE NEIGHBOUR: 'it returns false'. Refute it at one input. -/
def fnComponentsWalkedWrong : ChangeSpec := { name := "fnComponentsWalked", fn := fun _ => fun
  | [d1, d2] => { results := [.lit (.bool false)], args := [d1, d2] }
  | _ => none }
def FnComponentsWalkedWrongFalsely : Prop := fnComponentsWalkedRow.holds Try.pinned (OpenSpec.ofChange fnComponentsWalkedWrong)

/-- 'laws.FnPairsMoved': WHATEVER THE INPUT: true; the input reads as it did. -/
def fnPairsMovedSpec : ChangeSpec := { name := "fnPairsMoved", fn := fun _ => fun
  | [d1, d2] => { results := [.lit (.bool true)], args := [d1, d2] }
  | _ => none }
def fnPairsMovedRow : OpenClaim := { program := "ytbjdhipkdcfmlaa", sum := "8927a17b433f5fc3019a6274e999b67b8cce7e06e02566a1603473ed446684c4", func := "loop.example/g01126/laws.FnPairsMoved", spec := "fnPairsMoved", inPlace := ["internal/bytealg.IndexByteString", "internal/bytealg.IndexString"], unfollowed := true, recurses := true, named := ["internal/bytealg.MaxLen"], apart := false }
def FnPairsMovedSaid : Prop := fnPairsMovedRow.holds Try.pinned (OpenSpec.ofChange fnPairsMovedSpec)

/-- ITS FALSE NEIGHBOUR: 'it returns false'. Refute it at one input. -/
def fnPairsMovedWrong : ChangeSpec := { name := "fnPairsMoved", fn := fun _ => fun
  | [d1, d2] => { results := [.lit (.bool false)], args := [d1, d2] }
  | _ => none }
def FnPairsMovedWrongFalsely : Prop := fnPairsMovedRow.holds Try.pinned (OpenSpec.ofChange fnPairsMovedWrong)

/-- 'laws.FnStepsAreStates': WHATEVER THE INPUT: true; the input reads as it did. -/
def fnStepsAreStatesSpec : ChangeSpec := { name := "fnStepsAreStates", fn := fun _ => fun
  | [d1, d2] => { results := [.lit (.bool true)], args := [d1, d2] }
  | _ => none }
def fnStepsAreStatesRow : OpenClaim := { program := "ytbjdhipkdcfmlaa", sum := "8927a17b433f5fc3019a6274e999b67b8cce7e06e02566a1603473ed446684c4", func := "loop.example/g01126/laws.FnStepsAreStates", spec := "fnStepsAreStates", inPlace := ["internal/bytealg.IndexByteString", "internal/bytealg.IndexString"], unfollowed := true, recurses := true, named := ["internal/bytealg.MaxLen"], apart := false }
def FnStepsAreStatesSaid : Prop := fnStepsAreStatesRow.holds Try.pinned (OpenSpec.ofChange fnStepsAreStatesSpec)

/-- ITS FALSE NEIGHBOUR: 'it returns false'. Refute it at one input. -/
def fnStepsAreStatesWrong : ChangeSpec := { name := "fnStepsAreStates", fn := fun _ => fun
  | [d1, d2] => { results := [.lit (.bool false)], args := [d1, d2] }
  | _ => none }
def FnStepsAreStatesWrongFalsely : Prop := fnStepsAreStatesRow.holds Try.pinned (OpenSpec.ofChange fnStepsAreStatesWrong)

/-- 'laws.FnStatesCounted': WHATEVER THE INPUT: true; the input reads as it did. -/
def fnStatesCountedSpec : ChangeSpec := { name := "fnStatesCounted", fn := fun _ => fun
  | [d1, d2] => { results := [.lit (.bool true)], args := [d1, d2] }
  | _ => none }
def fnStatesCountedRow : OpenClaim := { program := "ytbjdhipkdcfmlaa", sum := "8927a17b433f5fc3019a6274e999b67b8cce7e06e02566a1603473ed446684c4", func := "loop.example/g01126/laws.FnStatesCounted", spec := "fnStatesCounted", unfollowed := true, recurses := true, apart := false }
def FnStatesCountedSaid : Prop := fnStatesCountedRow.holds Try.pinned (OpenSpec.ofChange fnStatesCountedSpec)

/-- ITS FALSE NEIGHBOUR: 'it returns false'. Refute it at one input. -/
def fnStatesCountedWrong : ChangeSpec := { name := "fnStatesCounted", fn := fun _ => fun
  | [d1, d2] => { results := [.lit (.bool false)], args := [d1, d2] }
  | _ => none }
def FnStatesCountedWrongFalsely : Prop := fnStatesCountedRow.holds Try.pinned (OpenSpec.ofChange fnStatesCountedWrong)

/- THE SECOND FORM. 'bulk': how many values and letters a reading holds, each counted each time it is reached (what is shared counts as often as it is met; a slice's spare places count too). A statement '..UptoSaid' is the law's where the arguments, and the package variables that the reading takes, are together of bulk at most 1048576: NARROWER than '..Said'. Prove '..Said' where nothing that the law and all that it calls make is longer than what came in: it says more and counts as full. Else prove '..UptoSaid'. A law counts once. -/
mutual
def uptoBulk {H : Type} : DataW H → Nat
  | .lit (.string bytes) => bytes.length + 1
  | .lit _ => 1
  | .nil => 1
  | .ptr d => uptoBulk d + 1
  | .slice elems spare => uptoBulkAll elems + uptoBulkAll spare + 1
  | .agg parts => uptoBulkAll parts + 1
  | .iface _ d => uptoBulk d + 1
  | .map entries => uptoBulkEntries entries + 1
  | .held _ => 1
def uptoBulkAll {H : Type} : List (DataW H) → Nat
  | [] => 0
  | d :: r => uptoBulk d + uptoBulkAll r
def uptoBulkEntries {H : Type} : List (Lit × DataW H) → Nat
  | [] => 0
  | x :: r => uptoBulkEntry x + uptoBulkEntries r
def uptoBulkEntry {H : Type} : Lit × DataW H → Nat
  | (.string bytes, d) => bytes.length + uptoBulk d + 1
  | (_, d) => uptoBulk d + 1
 end
def uptoSmall : (H : Type) → List (DataW H) → Bool := fun _ ds => decide (uptoBulkAll ds ≤ 1048576)
def OpenSpec.upto (s : _root_.Go.ChangeSpec) : _root_.Go.OpenSpec := { _root_.Go.OpenSpec.ofChange s with cond := some uptoSmall }

/-- 'laws.FnExactIsState', WHERE WHAT IT READS IS OF BULK AT MOST 1048576: true; the input reads as it did. -/
def fnExactIsStateUptoRow : OpenClaim := { program := "ytbjdhipkdcfmlaa", sum := "8927a17b433f5fc3019a6274e999b67b8cce7e06e02566a1603473ed446684c4", func := "loop.example/g01126/laws.FnExactIsState", spec := "fnExactIsState", unfollowed := true, recurses := true, apart := false, narrowed := true }
def FnExactIsStateUptoSaid : Prop := fnExactIsStateUptoRow.holds Try.pinned (OpenSpec.upto fnExactIsStateSpec)

/-- 'laws.FnExactFewestSteps', WHERE WHAT IT READS IS OF BULK AT MOST 1048576: true; the input reads as it did. -/
def fnExactFewestStepsUptoRow : OpenClaim := { program := "ytbjdhipkdcfmlaa", sum := "8927a17b433f5fc3019a6274e999b67b8cce7e06e02566a1603473ed446684c4", func := "loop.example/g01126/laws.FnExactFewestSteps", spec := "fnExactFewestSteps", unfollowed := true, recurses := true, apart := false, narrowed := true }
def FnExactFewestStepsUptoSaid : Prop := fnExactFewestStepsUptoRow.holds Try.pinned (OpenSpec.upto fnExactFewestStepsSpec)

/-- 'laws.FnExactPairOfSteps', WHERE WHAT IT READS IS OF BULK AT MOST 1048576: true; the input reads as it did. -/
def fnExactPairOfStepsUptoRow : OpenClaim := { program := "ytbjdhipkdcfmlaa", sum := "8927a17b433f5fc3019a6274e999b67b8cce7e06e02566a1603473ed446684c4", func := "loop.example/g01126/laws.FnExactPairOfSteps", spec := "fnExactPairOfSteps", inPlace := ["internal/bytealg.IndexByteString", "internal/bytealg.IndexString"], named := ["internal/bytealg.MaxLen"], apart := false, narrowed := true }
def FnExactPairOfStepsUptoSaid : Prop := fnExactPairOfStepsUptoRow.holds Try.pinned (OpenSpec.upto fnExactPairOfStepsSpec)

/-- 'laws.FnExactMirrorState', WHERE WHAT IT READS IS OF BULK AT MOST 1048576: true; the input reads as it did. -/
def fnExactMirrorStateUptoRow : OpenClaim := { program := "ytbjdhipkdcfmlaa", sum := "8927a17b433f5fc3019a6274e999b67b8cce7e06e02566a1603473ed446684c4", func := "loop.example/g01126/laws.FnExactMirrorState", spec := "fnExactMirrorState", unfollowed := true, recurses := true, apart := false, narrowed := true }
def FnExactMirrorStateUptoSaid : Prop := fnExactMirrorStateUptoRow.holds Try.pinned (OpenSpec.upto fnExactMirrorStateSpec)

/-- 'laws.FnExactStateBehind', WHERE WHAT IT READS IS OF BULK AT MOST 1048576: true; the input reads as it did. -/
def fnExactStateBehindUptoRow : OpenClaim := { program := "ytbjdhipkdcfmlaa", sum := "8927a17b433f5fc3019a6274e999b67b8cce7e06e02566a1603473ed446684c4", func := "loop.example/g01126/laws.FnExactStateBehind", spec := "fnExactStateBehind", unfollowed := true, recurses := true, apart := false, narrowed := true }
def FnExactStateBehindUptoSaid : Prop := fnExactStateBehindUptoRow.holds Try.pinned (OpenSpec.upto fnExactStateBehindSpec)

/-- 'laws.FnExactStepState', WHERE WHAT IT READS IS OF BULK AT MOST 1048576: true; the input reads as it did. -/
def fnExactStepStateUptoRow : OpenClaim := { program := "ytbjdhipkdcfmlaa", sum := "8927a17b433f5fc3019a6274e999b67b8cce7e06e02566a1603473ed446684c4", func := "loop.example/g01126/laws.FnExactStepState", spec := "fnExactStepState", unfollowed := true, recurses := true, apart := false, narrowed := true }
def FnExactStepStateUptoSaid : Prop := fnExactStepStateUptoRow.holds Try.pinned (OpenSpec.upto fnExactStepStateSpec)

/-- 'laws.FnArchesPut', WHERE WHAT IT READS IS OF BULK AT MOST 1048576: true; the input reads as it did. -/
def fnArchesPutUptoRow : OpenClaim := { program := "ytbjdhipkdcfmlaa", sum := "8927a17b433f5fc3019a6274e999b67b8cce7e06e02566a1603473ed446684c4", func := "loop.example/g01126/laws.FnArchesPut", spec := "fnArchesPut", unfollowed := true, recurses := true, apart := false, narrowed := true }
def FnArchesPutUptoSaid : Prop := fnArchesPutUptoRow.holds Try.pinned (OpenSpec.upto fnArchesPutSpec)

/-- 'laws.FnSystemsMoved', WHERE WHAT IT READS IS OF BULK AT MOST 1048576: true; the input reads as it did. -/
def fnSystemsMovedUptoRow : OpenClaim := { program := "ytbjdhipkdcfmlaa", sum := "8927a17b433f5fc3019a6274e999b67b8cce7e06e02566a1603473ed446684c4", func := "loop.example/g01126/laws.FnSystemsMoved", spec := "fnSystemsMoved", unfollowed := true, recurses := true, apart := false, narrowed := true }
def FnSystemsMovedUptoSaid : Prop := fnSystemsMovedUptoRow.holds Try.pinned (OpenSpec.upto fnSystemsMovedSpec)

/-- 'laws.FnComponentsWalked', WHERE WHAT IT READS IS OF BULK AT MOST 1048576: true; the input reads as it did. -/
def fnComponentsWalkedUptoRow : OpenClaim := { program := "ytbjdhipkdcfmlaa", sum := "8927a17b433f5fc3019a6274e999b67b8cce7e06e02566a1603473ed446684c4", func := "loop.example/g01126/laws.FnComponentsWalked", spec := "fnComponentsWalked", apart := false, narrowed := true }
def FnComponentsWalkedUptoSaid : Prop := fnComponentsWalkedUptoRow.holds Try.pinned (OpenSpec.upto fnComponentsWalkedSpec)

/-- 'laws.FnPairsMoved', WHERE WHAT IT READS IS OF BULK AT MOST 1048576: true; the input reads as it did. -/
def fnPairsMovedUptoRow : OpenClaim := { program := "ytbjdhipkdcfmlaa", sum := "8927a17b433f5fc3019a6274e999b67b8cce7e06e02566a1603473ed446684c4", func := "loop.example/g01126/laws.FnPairsMoved", spec := "fnPairsMoved", inPlace := ["internal/bytealg.IndexByteString", "internal/bytealg.IndexString"], unfollowed := true, recurses := true, named := ["internal/bytealg.MaxLen"], apart := false, narrowed := true }
def FnPairsMovedUptoSaid : Prop := fnPairsMovedUptoRow.holds Try.pinned (OpenSpec.upto fnPairsMovedSpec)

/-- 'laws.FnStepsAreStates', WHERE WHAT IT READS IS OF BULK AT MOST 1048576: true; the input reads as it did. -/
def fnStepsAreStatesUptoRow : OpenClaim := { program := "ytbjdhipkdcfmlaa", sum := "8927a17b433f5fc3019a6274e999b67b8cce7e06e02566a1603473ed446684c4", func := "loop.example/g01126/laws.FnStepsAreStates", spec := "fnStepsAreStates", inPlace := ["internal/bytealg.IndexByteString", "internal/bytealg.IndexString"], unfollowed := true, recurses := true, named := ["internal/bytealg.MaxLen"], apart := false, narrowed := true }
def FnStepsAreStatesUptoSaid : Prop := fnStepsAreStatesUptoRow.holds Try.pinned (OpenSpec.upto fnStepsAreStatesSpec)

/-- 'laws.FnStatesCounted', WHERE WHAT IT READS IS OF BULK AT MOST 1048576: true; the input reads as it did. -/
def fnStatesCountedUptoRow : OpenClaim := { program := "ytbjdhipkdcfmlaa", sum := "8927a17b433f5fc3019a6274e999b67b8cce7e06e02566a1603473ed446684c4", func := "loop.example/g01126/laws.FnStatesCounted", spec := "fnStatesCounted", unfollowed := true, recurses := true, apart := false, narrowed := true }
def FnStatesCountedUptoSaid : Prop := fnStatesCountedUptoRow.holds Try.pinned (OpenSpec.upto fnStatesCountedSpec)

end Rows
end Go.Proofs.Ytbjdhipkdcfmlaa
