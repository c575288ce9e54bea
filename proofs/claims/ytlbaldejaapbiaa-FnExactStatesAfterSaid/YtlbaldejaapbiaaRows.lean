/-
  No cell of these rows narrows 'for every input' (looked for: loops, veiled, ifaces, maps, wideKeys, modest, calm, conditions, laid).
  DERIVED. THE GIVEN ROWS OF THIS SEAT. 7 by the template 'for every input the law returns true; each argument reads behind the call as it read before'; 0 by the template 'total and deterministic' (their statements: YtlbaldejaapbiaaTotals.lean).
  GIVEN WITH THE SEED: the statements are not yours to turn. If you find one false, say at which input.
  Laid BY PROGRAM, IN A SANDBOX (cutbox-rows.mjs): the forced cells as the released guide's own fill.sh prints them over the translation 0383f02b67ff9401… (all of the seat's roots in one cut). By AI agents, Wed Nov 11 2026. No macro, syntax, notation, axiom, sorry.
-/
import Derived.Test.YtlbaldejaapbiaaChecked
import GoSem.Claim
import GoSem.ClaimJoined
import GoSem.ClaimMapViews
import Derived.JoinedTies
import Derived.KernelRfl
namespace Go.Proofs.Ytlbaldejaapbiaa
/- THE CELL 'sum', in the pinned program and in every row, IS THE sha256 OF THE DUMP (.gsa) THAT YtlbaldejaapbiaaProg.lean LOADS. Nothing in Lean hashes anything: it is a label: what it is worth is what the hold of that sum in a sandbox is worth. -/
noncomputable def Try.pinned : Pinned := { name := "ytlbaldejaapbiaa", sum := "0383f02b67ff94010a8f805c86b27365903c94922c416a911bdd89b212893899", checked := Try.checked }
namespace Rows
def none {H : Type} : Left H := { results := [], args := [] }

/-- 'laws.FnExactIsState': WHATEVER THE INPUT: true; the input reads as it did. -/
def fnExactIsStateSpec : ChangeSpec := { name := "fnExactIsState", fn := fun _ => fun
  | [d] => { results := [.lit (.bool true)], args := [d] }
  | _ => none }
def fnExactIsStateRow : OpenClaim := { program := "ytlbaldejaapbiaa", sum := "0383f02b67ff94010a8f805c86b27365903c94922c416a911bdd89b212893899", func := "loop.example/g01126/laws.FnExactIsState", spec := "fnExactIsState", unfollowed := true, recurses := true, apart := false }
def FnExactIsStateSaid : Prop := fnExactIsStateRow.holds Try.pinned (OpenSpec.ofChange fnExactIsStateSpec)

/-- ITS FALSE NEIGHBOUR: 'it returns false'. Refute it at one input. -/
def fnExactIsStateWrong : ChangeSpec := { name := "fnExactIsState", fn := fun _ => fun
  | [d] => { results := [.lit (.bool false)], args := [d] }
  | _ => none }
def FnExactIsStateWrongFalsely : Prop := fnExactIsStateRow.holds Try.pinned (OpenSpec.ofChange fnExactIsStateWrong)

/-- 'laws.FnExactFewestSteps': WHATEVER THE INPUT: true; the input reads as it did. -/
def fnExactFewestStepsSpec : ChangeSpec := { name := "fnExactFewestSteps", fn := fun _ => fun
  | [d] => { results := [.lit (.bool true)], args := [d] }
  | _ => none }
def fnExactFewestStepsRow : OpenClaim := { program := "ytlbaldejaapbiaa", sum := "0383f02b67ff94010a8f805c86b27365903c94922c416a911bdd89b212893899", func := "loop.example/g01126/laws.FnExactFewestSteps", spec := "fnExactFewestSteps", unfollowed := true, recurses := true, apart := false }
def FnExactFewestStepsSaid : Prop := fnExactFewestStepsRow.holds Try.pinned (OpenSpec.ofChange fnExactFewestStepsSpec)

/-- ITS FALSE NEIGHBOUR: 'it returns false'. Refute it at one input. -/
def fnExactFewestStepsWrong : ChangeSpec := { name := "fnExactFewestSteps", fn := fun _ => fun
  | [d] => { results := [.lit (.bool false)], args := [d] }
  | _ => none }
def FnExactFewestStepsWrongFalsely : Prop := fnExactFewestStepsRow.holds Try.pinned (OpenSpec.ofChange fnExactFewestStepsWrong)

/-- 'laws.FnExactMirrorState': WHATEVER THE INPUT: true; the input reads as it did. -/
def fnExactMirrorStateSpec : ChangeSpec := { name := "fnExactMirrorState", fn := fun _ => fun
  | [d] => { results := [.lit (.bool true)], args := [d] }
  | _ => none }
def fnExactMirrorStateRow : OpenClaim := { program := "ytlbaldejaapbiaa", sum := "0383f02b67ff94010a8f805c86b27365903c94922c416a911bdd89b212893899", func := "loop.example/g01126/laws.FnExactMirrorState", spec := "fnExactMirrorState", unfollowed := true, recurses := true, apart := false }
def FnExactMirrorStateSaid : Prop := fnExactMirrorStateRow.holds Try.pinned (OpenSpec.ofChange fnExactMirrorStateSpec)

/-- ITS FALSE NEIGHBOUR: 'it returns false'. Refute it at one input. -/
def fnExactMirrorStateWrong : ChangeSpec := { name := "fnExactMirrorState", fn := fun _ => fun
  | [d] => { results := [.lit (.bool false)], args := [d] }
  | _ => none }
def FnExactMirrorStateWrongFalsely : Prop := fnExactMirrorStateRow.holds Try.pinned (OpenSpec.ofChange fnExactMirrorStateWrong)

/-- 'laws.FnExactStateBehind': WHATEVER THE INPUT: true; the input reads as it did. -/
def fnExactStateBehindSpec : ChangeSpec := { name := "fnExactStateBehind", fn := fun _ => fun
  | [d1, d2] => { results := [.lit (.bool true)], args := [d1, d2] }
  | _ => none }
def fnExactStateBehindRow : OpenClaim := { program := "ytlbaldejaapbiaa", sum := "0383f02b67ff94010a8f805c86b27365903c94922c416a911bdd89b212893899", func := "loop.example/g01126/laws.FnExactStateBehind", spec := "fnExactStateBehind", unfollowed := true, recurses := true, apart := false }
def FnExactStateBehindSaid : Prop := fnExactStateBehindRow.holds Try.pinned (OpenSpec.ofChange fnExactStateBehindSpec)

/-- ITS FALSE NEIGHBOUR: 'it returns false'. Refute it at one input. -/
def fnExactStateBehindWrong : ChangeSpec := { name := "fnExactStateBehind", fn := fun _ => fun
  | [d1, d2] => { results := [.lit (.bool false)], args := [d1, d2] }
  | _ => none }
def FnExactStateBehindWrongFalsely : Prop := fnExactStateBehindRow.holds Try.pinned (OpenSpec.ofChange fnExactStateBehindWrong)

/-- 'laws.FnExactStepState': WHATEVER THE INPUT: true; the input reads as it did. -/
def fnExactStepStateSpec : ChangeSpec := { name := "fnExactStepState", fn := fun _ => fun
  | [d1, d2] => { results := [.lit (.bool true)], args := [d1, d2] }
  | _ => none }
def fnExactStepStateRow : OpenClaim := { program := "ytlbaldejaapbiaa", sum := "0383f02b67ff94010a8f805c86b27365903c94922c416a911bdd89b212893899", func := "loop.example/g01126/laws.FnExactStepState", spec := "fnExactStepState", unfollowed := true, recurses := true, apart := false }
def FnExactStepStateSaid : Prop := fnExactStepStateRow.holds Try.pinned (OpenSpec.ofChange fnExactStepStateSpec)

/-- ITS FALSE NEIGHBOUR: 'it returns false'. Refute it at one input. -/
def fnExactStepStateWrong : ChangeSpec := { name := "fnExactStepState", fn := fun _ => fun
  | [d1, d2] => { results := [.lit (.bool false)], args := [d1, d2] }
  | _ => none }
def FnExactStepStateWrongFalsely : Prop := fnExactStepStateRow.holds Try.pinned (OpenSpec.ofChange fnExactStepStateWrong)

/-- 'laws.FnExactCountStates': WHATEVER THE INPUT: true; the input reads as it did. -/
def fnExactCountStatesSpec : ChangeSpec := { name := "fnExactCountStates", fn := fun _ => fun
  | [d] => { results := [.lit (.bool true)], args := [d] }
  | _ => none }
def fnExactCountStatesRow : OpenClaim := { program := "ytlbaldejaapbiaa", sum := "0383f02b67ff94010a8f805c86b27365903c94922c416a911bdd89b212893899", func := "loop.example/g01126/laws.FnExactCountStates", spec := "fnExactCountStates", unfollowed := true, recurses := true, apart := false }
def FnExactCountStatesSaid : Prop := fnExactCountStatesRow.holds Try.pinned (OpenSpec.ofChange fnExactCountStatesSpec)

/-- ITS FALSE NEIGHBOUR: 'it returns false'. Refute it at one input. -/
def fnExactCountStatesWrong : ChangeSpec := { name := "fnExactCountStates", fn := fun _ => fun
  | [d] => { results := [.lit (.bool false)], args := [d] }
  | _ => none }
def FnExactCountStatesWrongFalsely : Prop := fnExactCountStatesRow.holds Try.pinned (OpenSpec.ofChange fnExactCountStatesWrong)

/-- 'laws.FnExactStatesAfter': WHATEVER THE INPUT: true; the input reads as it did. -/
def fnExactStatesAfterSpec : ChangeSpec := { name := "fnExactStatesAfter", fn := fun _ => fun
  | [d] => { results := [.lit (.bool true)], args := [d] }
  | _ => none }
def fnExactStatesAfterRow : OpenClaim := { program := "ytlbaldejaapbiaa", sum := "0383f02b67ff94010a8f805c86b27365903c94922c416a911bdd89b212893899", func := "loop.example/g01126/laws.FnExactStatesAfter", spec := "fnExactStatesAfter", unfollowed := true, recurses := true, apart := false }
def FnExactStatesAfterSaid : Prop := fnExactStatesAfterRow.holds Try.pinned (OpenSpec.ofChange fnExactStatesAfterSpec)

/-- ITS FALSE NEIGHBOUR: 'it returns false'. Refute it at one input. -/
def fnExactStatesAfterWrong : ChangeSpec := { name := "fnExactStatesAfter", fn := fun _ => fun
  | [d] => { results := [.lit (.bool false)], args := [d] }
  | _ => none }
def FnExactStatesAfterWrongFalsely : Prop := fnExactStatesAfterRow.holds Try.pinned (OpenSpec.ofChange fnExactStatesAfterWrong)

/- THE SECOND FORM. 'bulk': how many values and letters a reading holds, each counted each time it is reached (what is shared counts as often as it is met; a slice's spare places count too). A statement '..UptoSaid' is the law's where the arguments, and the package variables that the reading takes, are together of bulk at most 1048576: NARROWER than '..Said'. Prove '..Said' where nothing that the law and all that it calls make is longer than what came in: it says more and counts as full. Else prove '..UptoSaid'. A law counts once. -/
mutual
def uptoBulk {H : Type} : DataW H → Nat
  | .lit (.string bytes) => bytes.length + 1
  | .lit _ => 1
  | .nil => 1
  | .ptr d => uptoBulk d + 1
  | .slice elems spare => uptoBulkAll elems + uptoBulkAll spare + 1
  | .agg parts => uptoBulkAll parts + 1
  | .iface _ d => uptoBulk d + 1
  | .map entries => uptoBulkEntries entries + 1
  | .held _ => 1
def uptoBulkAll {H : Type} : List (DataW H) → Nat
  | [] => 0
  | d :: r => uptoBulk d + uptoBulkAll r
def uptoBulkEntries {H : Type} : List (Lit × DataW H) → Nat
  | [] => 0
  | x :: r => uptoBulkEntry x + uptoBulkEntries r
def uptoBulkEntry {H : Type} : Lit × DataW H → Nat
  | (.string bytes, d) => bytes.length + uptoBulk d + 1
  | (_, d) => uptoBulk d + 1
 end
def uptoSmall : (H : Type) → List (DataW H) → Bool := fun _ ds => decide (uptoBulkAll ds ≤ 1048576)
def OpenSpec.upto (s : _root_.Go.ChangeSpec) : _root_.Go.OpenSpec := { _root_.Go.OpenSpec.ofChange s with cond := some uptoSmall }

/-- 'laws.FnExactIsState', WHERE WHAT IT READS IS OF BULK AT MOST 1048576: true; the input reads as it did. -/
def fnExactIsStateUptoRow : OpenClaim := { program := "ytlbaldejaapbiaa", sum := "0383f02b67ff94010a8f805c86b27365903c94922c416a911bdd89b212893899", func := "loop.example/g01126/laws.FnExactIsState", spec := "fnExactIsState", unfollowed := true, recurses := true, apart := false, narrowed := true }
def FnExactIsStateUptoSaid : Prop := fnExactIsStateUptoRow.holds Try.pinned (OpenSpec.upto fnExactIsStateSpec)

/-- 'laws.FnExactFewestSteps', WHERE WHAT IT READS IS OF BULK AT MOST 1048576: true; the input reads as it did. -/
def fnExactFewestStepsUptoRow : OpenClaim := { program := "ytlbaldejaapbiaa", sum := "0383f02b67ff94010a8f805c86b27365903c94922c416a911bdd89b212893899", func := "loop.example/g01126/laws.FnExactFewestSteps", spec := "fnExactFewestSteps", unfollowed := true, recurses := true, apart := false, narrowed := true }
def FnExactFewestStepsUptoSaid : Prop := fnExactFewestStepsUptoRow.holds Try.pinned (OpenSpec.upto fnExactFewestStepsSpec)

/-- 'laws.FnExactMirrorState', WHERE WHAT IT READS IS OF BULK AT MOST 1048576: true; the input reads as it did. -/
def fnExactMirrorStateUptoRow : OpenClaim := { program := "ytlbaldejaapbiaa", sum := "0383f02b67ff94010a8f805c86b27365903c94922c416a911bdd89b212893899", func := "loop.example/g01126/laws.FnExactMirrorState", spec := "fnExactMirrorState", unfollowed := true, recurses := true, apart := false, narrowed := true }
def FnExactMirrorStateUptoSaid : Prop := fnExactMirrorStateUptoRow.holds Try.pinned (OpenSpec.upto fnExactMirrorStateSpec)

/-- 'laws.FnExactStateBehind', WHERE WHAT IT READS IS OF BULK AT MOST 1048576: true; the input reads as it did. -/
def fnExactStateBehindUptoRow : OpenClaim := { program := "ytlbaldejaapbiaa", sum := "0383f02b67ff94010a8f805c86b27365903c94922c416a911bdd89b212893899", func := "loop.example/g01126/laws.FnExactStateBehind", spec := "fnExactStateBehind", unfollowed := true, recurses := true, apart := false, narrowed := true }
def FnExactStateBehindUptoSaid : Prop := fnExactStateBehindUptoRow.holds Try.pinned (OpenSpec.upto fnExactStateBehindSpec)

/-- 'laws.FnExactStepState', WHERE WHAT IT READS IS OF BULK AT MOST 1048576: true; the input reads as it did. -/
def fnExactStepStateUptoRow : OpenClaim := { program := "ytlbaldejaapbiaa", sum := "0383f02b67ff94010a8f805c86b27365903c94922c416a911bdd89b212893899", func := "loop.example/g01126/laws.FnExactStepState", spec := "fnExactStepState", unfollowed := true, recurses := true, apart := false, narrowed := true }
def FnExactStepStateUptoSaid : Prop := fnExactStepStateUptoRow.holds Try.pinned (OpenSpec.upto fnExactStepStateSpec)

/-- 'laws.FnExactCountStates', WHERE WHAT IT READS IS OF BULK AT MOST 1048576: true; the input reads as it did. -/
def fnExactCountStatesUptoRow : OpenClaim := { program := "ytlbaldejaapbiaa", sum := "0383f02b67ff94010a8f805c86b27365903c94922c416a911bdd89b212893899", func := "loop.example/g01126/laws.FnExactCountStates", spec := "fnExactCountStates", unfollowed := true, recurses := true, apart := false, narrowed := true }
def FnExactCountStatesUptoSaid : Prop := fnExactCountStatesUptoRow.holds Try.pinned (OpenSpec.upto fnExactCountStatesSpec)

/-- 'laws.FnExactStatesAfter', WHERE WHAT IT READS IS OF BULK AT MOST 1048576: true; the input reads as it did. -/
def fnExactStatesAfterUptoRow : OpenClaim := { program := "ytlbaldejaapbiaa", sum := "0383f02b67ff94010a8f805c86b27365903c94922c416a911bdd89b212893899", func := "loop.example/g01126/laws.FnExactStatesAfter", spec := "fnExactStatesAfter", unfollowed := true, recurses := true, apart := false, narrowed := true }
def FnExactStatesAfterUptoSaid : Prop := fnExactStatesAfterUptoRow.holds Try.pinned (OpenSpec.upto fnExactStatesAfterSpec)

end Rows
end Go.Proofs.Ytlbaldejaapbiaa
