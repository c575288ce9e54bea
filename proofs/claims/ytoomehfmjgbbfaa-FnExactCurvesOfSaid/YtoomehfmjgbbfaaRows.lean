/-
  No cell of these rows narrows 'for every input' (looked for: loops, veiled, ifaces, maps, wideKeys, modest, calm, conditions, laid).
  DERIVED. THE GIVEN ROWS OF THIS SEAT. 12 by the template 'for every input the law returns true; each argument reads behind the call as it read before'; 0 by the template 'total and deterministic' (their statements: YtoomehfmjgbbfaaTotals.lean).
  GIVEN WITH THE SEED: the statements are not yours to turn. If you find one false, say at which input.
  Laid BY PROGRAM, IN A SANDBOX (cutbox-rows.mjs): the forced cells as the released guide's own fill.sh prints them over the translation aef8b890d6afb43c… (all of the seat's roots in one cut). By AI agents, Wed Nov 11 2026. No macro, syntax, notation, axiom, sorry.
-/
import Derived.Test.YtoomehfmjgbbfaaChecked
import GoSem.Claim
import GoSem.ClaimJoined
import GoSem.ClaimMapViews
import Derived.JoinedTies
import Derived.KernelRfl
namespace Go.Proofs.Ytoomehfmjgbbfaa
/- THE CELL 'sum', in the pinned program and in every row, IS THE sha256 OF THE DUMP (.gsa) THAT YtoomehfmjgbbfaaProg.lean LOADS. Nothing in Lean hashes anything: it is a label: what it is worth is what the hold of that sum in a sandbox is worth. -/
noncomputable def Try.pinned : Pinned := { name := "ytoomehfmjgbbfaa", sum := "aef8b890d6afb43c40b8d9733669b0f30a48d43c2d5b3fa23d4b74f953972d30", checked := Try.checked }
namespace Rows
def none {H : Type} : Left H := { results := [], args := [] }

/-- 'laws.FnExactMeanderText': WHATEVER THE INPUT: true; the input reads as it did. -/
def fnExactMeanderTextSpec : ChangeSpec := { name := "fnExactMeanderText", fn := fun _ => fun
  | [d] => { results := [.lit (.bool true)], args := [d] }
  | _ => none }
def fnExactMeanderTextRow : OpenClaim := { program := "ytoomehfmjgbbfaa", sum := "aef8b890d6afb43c40b8d9733669b0f30a48d43c2d5b3fa23d4b74f953972d30", func := "loop.example/g01126/laws.FnExactMeanderText", spec := "fnExactMeanderText", apart := false }
def FnExactMeanderTextSaid : Prop := fnExactMeanderTextRow.holds Try.pinned (OpenSpec.ofChange fnExactMeanderTextSpec)

/-- ITS FALSE NEIGHBOUR: 'it returns false'. Refute it at one input. -/
def fnExactMeanderTextWrong : ChangeSpec := { name := "fnExactMeanderText", fn := fun _ => fun
  | [d] => { results := [.lit (.bool false)], args := [d] }
  | _ => none }
def FnExactMeanderTextWrongFalsely : Prop := fnExactMeanderTextRow.holds Try.pinned (OpenSpec.ofChange fnExactMeanderTextWrong)

/-- 'laws.FnExactWayFrom': WHATEVER THE INPUT: true; the input reads as it did. -/
def fnExactWayFromSpec : ChangeSpec := { name := "fnExactWayFrom", fn := fun _ => fun
  | [d1, d2] => { results := [.lit (.bool true)], args := [d1, d2] }
  | _ => none }
def fnExactWayFromRow : OpenClaim := { program := "ytoomehfmjgbbfaa", sum := "aef8b890d6afb43c40b8d9733669b0f30a48d43c2d5b3fa23d4b74f953972d30", func := "loop.example/g01126/laws.FnExactWayFrom", spec := "fnExactWayFrom", apart := false }
def FnExactWayFromSaid : Prop := fnExactWayFromRow.holds Try.pinned (OpenSpec.ofChange fnExactWayFromSpec)

/-- ITS FALSE NEIGHBOUR: 'it returns false'. Refute it at one input. -/
def fnExactWayFromWrong : ChangeSpec := { name := "fnExactWayFrom", fn := fun _ => fun
  | [d1, d2] => { results := [.lit (.bool false)], args := [d1, d2] }
  | _ => none }
def FnExactWayFromWrongFalsely : Prop := fnExactWayFromRow.holds Try.pinned (OpenSpec.ofChange fnExactWayFromWrong)

/-- 'laws.FnExactFlipMeander': WHATEVER THE INPUT: true; the input reads as it did. -/
def fnExactFlipMeanderSpec : ChangeSpec := { name := "fnExactFlipMeander", fn := fun _ => fun
  | [d] => { results := [.lit (.bool true)], args := [d] }
  | _ => none }
def fnExactFlipMeanderRow : OpenClaim := { program := "ytoomehfmjgbbfaa", sum := "aef8b890d6afb43c40b8d9733669b0f30a48d43c2d5b3fa23d4b74f953972d30", func := "loop.example/g01126/laws.FnExactFlipMeander", spec := "fnExactFlipMeander", apart := false }
def FnExactFlipMeanderSaid : Prop := fnExactFlipMeanderRow.holds Try.pinned (OpenSpec.ofChange fnExactFlipMeanderSpec)

/-- ITS FALSE NEIGHBOUR: 'it returns false'. Refute it at one input. -/
def fnExactFlipMeanderWrong : ChangeSpec := { name := "fnExactFlipMeander", fn := fun _ => fun
  | [d] => { results := [.lit (.bool false)], args := [d] }
  | _ => none }
def FnExactFlipMeanderWrongFalsely : Prop := fnExactFlipMeanderRow.holds Try.pinned (OpenSpec.ofChange fnExactFlipMeanderWrong)

/-- 'laws.FnExactMirrorMeander': WHATEVER THE INPUT: true; the input reads as it did. -/
def fnExactMirrorMeanderSpec : ChangeSpec := { name := "fnExactMirrorMeander", fn := fun _ => fun
  | [d] => { results := [.lit (.bool true)], args := [d] }
  | _ => none }
def fnExactMirrorMeanderRow : OpenClaim := { program := "ytoomehfmjgbbfaa", sum := "aef8b890d6afb43c40b8d9733669b0f30a48d43c2d5b3fa23d4b74f953972d30", func := "loop.example/g01126/laws.FnExactMirrorMeander", spec := "fnExactMirrorMeander", unfollowed := true, recurses := true, apart := false }
def FnExactMirrorMeanderSaid : Prop := fnExactMirrorMeanderRow.holds Try.pinned (OpenSpec.ofChange fnExactMirrorMeanderSpec)

/-- ITS FALSE NEIGHBOUR: 'it returns false'. Refute it at one input. -/
def fnExactMirrorMeanderWrong : ChangeSpec := { name := "fnExactMirrorMeander", fn := fun _ => fun
  | [d] => { results := [.lit (.bool false)], args := [d] }
  | _ => none }
def FnExactMirrorMeanderWrongFalsely : Prop := fnExactMirrorMeanderRow.holds Try.pinned (OpenSpec.ofChange fnExactMirrorMeanderWrong)

/-- 'laws.FnExactStepsOf': WHATEVER THE INPUT: true; the input reads as it did. -/
def fnExactStepsOfSpec : ChangeSpec := { name := "fnExactStepsOf", fn := fun _ => fun
  | [d] => { results := [.lit (.bool true)], args := [d] }
  | _ => none }
def fnExactStepsOfRow : OpenClaim := { program := "ytoomehfmjgbbfaa", sum := "aef8b890d6afb43c40b8d9733669b0f30a48d43c2d5b3fa23d4b74f953972d30", func := "loop.example/g01126/laws.FnExactStepsOf", spec := "fnExactStepsOf", apart := false }
def FnExactStepsOfSaid : Prop := fnExactStepsOfRow.holds Try.pinned (OpenSpec.ofChange fnExactStepsOfSpec)

/-- ITS FALSE NEIGHBOUR: 'it returns false'. Refute it at one input. -/
def fnExactStepsOfWrong : ChangeSpec := { name := "fnExactStepsOf", fn := fun _ => fun
  | [d] => { results := [.lit (.bool false)], args := [d] }
  | _ => none }
def FnExactStepsOfWrongFalsely : Prop := fnExactStepsOfRow.holds Try.pinned (OpenSpec.ofChange fnExactStepsOfWrong)

/-- 'laws.FnExactTurnMeander': WHATEVER THE INPUT: true; the input reads as it did. -/
def fnExactTurnMeanderSpec : ChangeSpec := { name := "fnExactTurnMeander", fn := fun _ => fun
  | [d1, d2] => { results := [.lit (.bool true)], args := [d1, d2] }
  | _ => none }
def fnExactTurnMeanderRow : OpenClaim := { program := "ytoomehfmjgbbfaa", sum := "aef8b890d6afb43c40b8d9733669b0f30a48d43c2d5b3fa23d4b74f953972d30", func := "loop.example/g01126/laws.FnExactTurnMeander", spec := "fnExactTurnMeander", unfollowed := true, recurses := true, apart := false }
def FnExactTurnMeanderSaid : Prop := fnExactTurnMeanderRow.holds Try.pinned (OpenSpec.ofChange fnExactTurnMeanderSpec)

/-- ITS FALSE NEIGHBOUR: 'it returns false'. Refute it at one input. -/
def fnExactTurnMeanderWrong : ChangeSpec := { name := "fnExactTurnMeander", fn := fun _ => fun
  | [d1, d2] => { results := [.lit (.bool false)], args := [d1, d2] }
  | _ => none }
def FnExactTurnMeanderWrongFalsely : Prop := fnExactTurnMeanderRow.holds Try.pinned (OpenSpec.ofChange fnExactTurnMeanderWrong)

/-- 'laws.FnExactJoinMeanders': WHATEVER THE INPUT: true; the input reads as it did. -/
def fnExactJoinMeandersSpec : ChangeSpec := { name := "fnExactJoinMeanders", fn := fun _ => fun
  | [d1, d2] => { results := [.lit (.bool true)], args := [d1, d2] }
  | _ => none }
def fnExactJoinMeandersRow : OpenClaim := { program := "ytoomehfmjgbbfaa", sum := "aef8b890d6afb43c40b8d9733669b0f30a48d43c2d5b3fa23d4b74f953972d30", func := "loop.example/g01126/laws.FnExactJoinMeanders", spec := "fnExactJoinMeanders", apart := false }
def FnExactJoinMeandersSaid : Prop := fnExactJoinMeandersRow.holds Try.pinned (OpenSpec.ofChange fnExactJoinMeandersSpec)

/-- ITS FALSE NEIGHBOUR: 'it returns false'. Refute it at one input. -/
def fnExactJoinMeandersWrong : ChangeSpec := { name := "fnExactJoinMeanders", fn := fun _ => fun
  | [d1, d2] => { results := [.lit (.bool false)], args := [d1, d2] }
  | _ => none }
def FnExactJoinMeandersWrongFalsely : Prop := fnExactJoinMeandersRow.holds Try.pinned (OpenSpec.ofChange fnExactJoinMeandersWrong)

/-- 'laws.FnExactComponentsOf': WHATEVER THE INPUT: true; the input reads as it did. -/
def fnExactComponentsOfSpec : ChangeSpec := { name := "fnExactComponentsOf", fn := fun _ => fun
  | [d] => { results := [.lit (.bool true)], args := [d] }
  | _ => none }
def fnExactComponentsOfRow : OpenClaim := { program := "ytoomehfmjgbbfaa", sum := "aef8b890d6afb43c40b8d9733669b0f30a48d43c2d5b3fa23d4b74f953972d30", func := "loop.example/g01126/laws.FnExactComponentsOf", spec := "fnExactComponentsOf", apart := false }
def FnExactComponentsOfSaid : Prop := fnExactComponentsOfRow.holds Try.pinned (OpenSpec.ofChange fnExactComponentsOfSpec)

/-- ITS FALSE NEIGHBOUR: 'it returns false'. Refute it at one input. -/
def fnExactComponentsOfWrong : ChangeSpec := { name := "fnExactComponentsOf", fn := fun _ => fun
  | [d] => { results := [.lit (.bool false)], args := [d] }
  | _ => none }
def FnExactComponentsOfWrongFalsely : Prop := fnExactComponentsOfRow.holds Try.pinned (OpenSpec.ofChange fnExactComponentsOfWrong)

/-- 'laws.FnExactIsMeander': WHATEVER THE INPUT: true; the input reads as it did. -/
def fnExactIsMeanderSpec : ChangeSpec := { name := "fnExactIsMeander", fn := fun _ => fun
  | [d] => { results := [.lit (.bool true)], args := [d] }
  | _ => none }
def fnExactIsMeanderRow : OpenClaim := { program := "ytoomehfmjgbbfaa", sum := "aef8b890d6afb43c40b8d9733669b0f30a48d43c2d5b3fa23d4b74f953972d30", func := "loop.example/g01126/laws.FnExactIsMeander", spec := "fnExactIsMeander", apart := false }
def FnExactIsMeanderSaid : Prop := fnExactIsMeanderRow.holds Try.pinned (OpenSpec.ofChange fnExactIsMeanderSpec)

/-- ITS FALSE NEIGHBOUR: 'it returns false'. Refute it at one input. -/
def fnExactIsMeanderWrong : ChangeSpec := { name := "fnExactIsMeander", fn := fun _ => fun
  | [d] => { results := [.lit (.bool false)], args := [d] }
  | _ => none }
def FnExactIsMeanderWrongFalsely : Prop := fnExactIsMeanderRow.holds Try.pinned (OpenSpec.ofChange fnExactIsMeanderWrong)

/-- 'laws.FnExactCurveOfPoints': WHATEVER THE INPUT: true; the input reads as it did. -/
def fnExactCurveOfPointsSpec : ChangeSpec := { name := "fnExactCurveOfPoints", fn := fun _ => fun
  | [d] => { results := [.lit (.bool true)], args := [d] }
  | _ => none }
def fnExactCurveOfPointsRow : OpenClaim := { program := "ytoomehfmjgbbfaa", sum := "aef8b890d6afb43c40b8d9733669b0f30a48d43c2d5b3fa23d4b74f953972d30", func := "loop.example/g01126/laws.FnExactCurveOfPoints", spec := "fnExactCurveOfPoints", apart := false }
def FnExactCurveOfPointsSaid : Prop := fnExactCurveOfPointsRow.holds Try.pinned (OpenSpec.ofChange fnExactCurveOfPointsSpec)

/-- ITS FALSE NEIGHBOUR: 'it returns false'. Refute it at one input. -/
def fnExactCurveOfPointsWrong : ChangeSpec := { name := "fnExactCurveOfPoints", fn := fun _ => fun
  | [d] => { results := [.lit (.bool false)], args := [d] }
  | _ => none }
def FnExactCurveOfPointsWrongFalsely : Prop := fnExactCurveOfPointsRow.holds Try.pinned (OpenSpec.ofChange fnExactCurveOfPointsWrong)

/-- 'laws.FnExactCurvesOf': WHATEVER THE INPUT: true; the input reads as it did. -/
def fnExactCurvesOfSpec : ChangeSpec := { name := "fnExactCurvesOf", fn := fun _ => fun
  | [d] => { results := [.lit (.bool true)], args := [d] }
  | _ => none }
def fnExactCurvesOfRow : OpenClaim := { program := "ytoomehfmjgbbfaa", sum := "aef8b890d6afb43c40b8d9733669b0f30a48d43c2d5b3fa23d4b74f953972d30", func := "loop.example/g01126/laws.FnExactCurvesOf", spec := "fnExactCurvesOf", apart := false }
def FnExactCurvesOfSaid : Prop := fnExactCurvesOfRow.holds Try.pinned (OpenSpec.ofChange fnExactCurvesOfSpec)

/-- ITS FALSE NEIGHBOUR: 'it returns false'. Refute it at one input. -/
def fnExactCurvesOfWrong : ChangeSpec := { name := "fnExactCurvesOf", fn := fun _ => fun
  | [d] => { results := [.lit (.bool false)], args := [d] }
  | _ => none }
def FnExactCurvesOfWrongFalsely : Prop := fnExactCurvesOfRow.holds Try.pinned (OpenSpec.ofChange fnExactCurvesOfWrong)

/-- 'laws.FnExactParseMeander': WHATEVER THE INPUT: true; the input reads as it did. -/
def fnExactParseMeanderSpec : ChangeSpec := { name := "fnExactParseMeander", fn := fun _ => fun
  | [d] => { results := [.lit (.bool true)], args := [d] }
  | _ => none }
def fnExactParseMeanderRow : OpenClaim := { program := "ytoomehfmjgbbfaa", sum := "aef8b890d6afb43c40b8d9733669b0f30a48d43c2d5b3fa23d4b74f953972d30", func := "loop.example/g01126/laws.FnExactParseMeander", spec := "fnExactParseMeander", inPlace := ["internal/bytealg.IndexByteString", "internal/bytealg.IndexString"], named := ["internal/bytealg.MaxLen"], apart := false }
def FnExactParseMeanderSaid : Prop := fnExactParseMeanderRow.holds Try.pinned (OpenSpec.ofChange fnExactParseMeanderSpec)

/-- ITS FALSE NEIGHBOUR: 'it returns false'. Refute it at one input. -/
def fnExactParseMeanderWrong : ChangeSpec := { name := "fnExactParseMeander", fn := fun _ => fun
  | [d] => { results := [.lit (.bool false)], args := [d] }
  | _ => none }
def FnExactParseMeanderWrongFalsely : Prop := fnExactParseMeanderRow.holds Try.pinned (OpenSpec.ofChange fnExactParseMeanderWrong)

/- THE SECOND FORM. 'bulk': how many values and letters a reading holds, each counted each time it is reached (what is shared counts as often as it is met; a slice's spare places count too). A statement '..UptoSaid' is the law's where the arguments, and the package variables that the reading takes, are together of bulk at most 1048576: NARROWER than '..Said'. Prove '..Said' where nothing that the law and all that it calls make is longer than what came in: it says more and counts as full. Else prove '..UptoSaid'. A law counts once. -/
mutual
def uptoBulk {H : Type} : DataW H → Nat
  | .lit (.string bytes) => bytes.length + 1
  | .lit _ => 1
  | .nil => 1
  | .ptr d => uptoBulk d + 1
  | .slice elems spare => uptoBulkAll elems + uptoBulkAll spare + 1
  | .agg parts => uptoBulkAll parts + 1
  | .iface _ d => uptoBulk d + 1
  | .map entries => uptoBulkEntries entries + 1
  | .held _ => 1
def uptoBulkAll {H : Type} : List (DataW H) → Nat
  | [] => 0
  | d :: r => uptoBulk d + uptoBulkAll r
def uptoBulkEntries {H : Type} : List (Lit × DataW H) → Nat
  | [] => 0
  | x :: r => uptoBulkEntry x + uptoBulkEntries r
def uptoBulkEntry {H : Type} : Lit × DataW H → Nat
  | (.string bytes, d) => bytes.length + uptoBulk d + 1
  | (_, d) => uptoBulk d + 1
 end
def uptoSmall : (H : Type) → List (DataW H) → Bool := fun _ ds => decide (uptoBulkAll ds ≤ 1048576)
def OpenSpec.upto (s : _root_.Go.ChangeSpec) : _root_.Go.OpenSpec := { _root_.Go.OpenSpec.ofChange s with cond := some uptoSmall }

/-- 'laws.FnExactMeanderText', WHERE WHAT IT READS IS OF BULK AT MOST 1048576: true; the input reads as it did. -/
def fnExactMeanderTextUptoRow : OpenClaim := { program := "ytoomehfmjgbbfaa", sum := "aef8b890d6afb43c40b8d9733669b0f30a48d43c2d5b3fa23d4b74f953972d30", func := "loop.example/g01126/laws.FnExactMeanderText", spec := "fnExactMeanderText", apart := false, narrowed := true }
def FnExactMeanderTextUptoSaid : Prop := fnExactMeanderTextUptoRow.holds Try.pinned (OpenSpec.upto fnExactMeanderTextSpec)

/-- 'laws.FnExactWayFrom', WHERE WHAT IT READS IS OF BULK AT MOST 1048576: true; the input reads as it did. -/
def fnExactWayFromUptoRow : OpenClaim := { program := "ytoomehfmjgbbfaa", sum := "aef8b890d6afb43c40b8d9733669b0f30a48d43c2d5b3fa23d4b74f953972d30", func := "loop.example/g01126/laws.FnExactWayFrom", spec := "fnExactWayFrom", apart := false, narrowed := true }
def FnExactWayFromUptoSaid : Prop := fnExactWayFromUptoRow.holds Try.pinned (OpenSpec.upto fnExactWayFromSpec)

/-- 'laws.FnExactFlipMeander', WHERE WHAT IT READS IS OF BULK AT MOST 1048576: true; the input reads as it did. -/
def fnExactFlipMeanderUptoRow : OpenClaim := { program := "ytoomehfmjgbbfaa", sum := "aef8b890d6afb43c40b8d9733669b0f30a48d43c2d5b3fa23d4b74f953972d30", func := "loop.example/g01126/laws.FnExactFlipMeander", spec := "fnExactFlipMeander", apart := false, narrowed := true }
def FnExactFlipMeanderUptoSaid : Prop := fnExactFlipMeanderUptoRow.holds Try.pinned (OpenSpec.upto fnExactFlipMeanderSpec)

/-- 'laws.FnExactMirrorMeander', WHERE WHAT IT READS IS OF BULK AT MOST 1048576: true; the input reads as it did. -/
def fnExactMirrorMeanderUptoRow : OpenClaim := { program := "ytoomehfmjgbbfaa", sum := "aef8b890d6afb43c40b8d9733669b0f30a48d43c2d5b3fa23d4b74f953972d30", func := "loop.example/g01126/laws.FnExactMirrorMeander", spec := "fnExactMirrorMeander", unfollowed := true, recurses := true, apart := false, narrowed := true }
def FnExactMirrorMeanderUptoSaid : Prop := fnExactMirrorMeanderUptoRow.holds Try.pinned (OpenSpec.upto fnExactMirrorMeanderSpec)

/-- 'laws.FnExactStepsOf', WHERE WHAT IT READS IS OF BULK AT MOST 1048576: true; the input reads as it did. -/
def fnExactStepsOfUptoRow : OpenClaim := { program := "ytoomehfmjgbbfaa", sum := "aef8b890d6afb43c40b8d9733669b0f30a48d43c2d5b3fa23d4b74f953972d30", func := "loop.example/g01126/laws.FnExactStepsOf", spec := "fnExactStepsOf", apart := false, narrowed := true }
def FnExactStepsOfUptoSaid : Prop := fnExactStepsOfUptoRow.holds Try.pinned (OpenSpec.upto fnExactStepsOfSpec)

/-- 'laws.FnExactTurnMeander', WHERE WHAT IT READS IS OF BULK AT MOST 1048576: true; the input reads as it did. -/
def fnExactTurnMeanderUptoRow : OpenClaim := { program := "ytoomehfmjgbbfaa", sum := "aef8b890d6afb43c40b8d9733669b0f30a48d43c2d5b3fa23d4b74f953972d30", func := "loop.example/g01126/laws.FnExactTurnMeander", spec := "fnExactTurnMeander", unfollowed := true, recurses := true, apart := false, narrowed := true }
def FnExactTurnMeanderUptoSaid : Prop := fnExactTurnMeanderUptoRow.holds Try.pinned (OpenSpec.upto fnExactTurnMeanderSpec)

/-- 'laws.FnExactJoinMeanders', WHERE WHAT IT READS IS OF BULK AT MOST 1048576: true; the input reads as it did. -/
def fnExactJoinMeandersUptoRow : OpenClaim := { program := "ytoomehfmjgbbfaa", sum := "aef8b890d6afb43c40b8d9733669b0f30a48d43c2d5b3fa23d4b74f953972d30", func := "loop.example/g01126/laws.FnExactJoinMeanders", spec := "fnExactJoinMeanders", apart := false, narrowed := true }
def FnExactJoinMeandersUptoSaid : Prop := fnExactJoinMeandersUptoRow.holds Try.pinned (OpenSpec.upto fnExactJoinMeandersSpec)

/-- 'laws.FnExactComponentsOf', WHERE WHAT IT READS IS OF BULK AT MOST 1048576: true; the input reads as it did. -/
def fnExactComponentsOfUptoRow : OpenClaim := { program := "ytoomehfmjgbbfaa", sum := "aef8b890d6afb43c40b8d9733669b0f30a48d43c2d5b3fa23d4b74f953972d30", func := "loop.example/g01126/laws.FnExactComponentsOf", spec := "fnExactComponentsOf", apart := false, narrowed := true }
def FnExactComponentsOfUptoSaid : Prop := fnExactComponentsOfUptoRow.holds Try.pinned (OpenSpec.upto fnExactComponentsOfSpec)

/-- 'laws.FnExactIsMeander', WHERE WHAT IT READS IS OF BULK AT MOST 1048576: true; the input reads as it did. -/
def fnExactIsMeanderUptoRow : OpenClaim := { program := "ytoomehfmjgbbfaa", sum := "aef8b890d6afb43c40b8d9733669b0f30a48d43c2d5b3fa23d4b74f953972d30", func := "loop.example/g01126/laws.FnExactIsMeander", spec := "fnExactIsMeander", apart := false, narrowed := true }
def FnExactIsMeanderUptoSaid : Prop := fnExactIsMeanderUptoRow.holds Try.pinned (OpenSpec.upto fnExactIsMeanderSpec)

/-- 'laws.FnExactCurveOfPoints', WHERE WHAT IT READS IS OF BULK AT MOST 1048576: true; the input reads as it did. -/
def fnExactCurveOfPointsUptoRow : OpenClaim := { program := "ytoomehfmjgbbfaa", sum := "aef8b890d6afb43c40b8d9733669b0f30a48d43c2d5b3fa23d4b74f953972d30", func := "loop.example/g01126/laws.FnExactCurveOfPoints", spec := "fnExactCurveOfPoints", apart := false, narrowed := true }
def FnExactCurveOfPointsUptoSaid : Prop := fnExactCurveOfPointsUptoRow.holds Try.pinned (OpenSpec.upto fnExactCurveOfPointsSpec)

/-- 'laws.FnExactCurvesOf', WHERE WHAT IT READS IS OF BULK AT MOST 1048576: true; the input reads as it did. -/
def fnExactCurvesOfUptoRow : OpenClaim := { program := "ytoomehfmjgbbfaa", sum := "aef8b890d6afb43c40b8d9733669b0f30a48d43c2d5b3fa23d4b74f953972d30", func := "loop.example/g01126/laws.FnExactCurvesOf", spec := "fnExactCurvesOf", apart := false, narrowed := true }
def FnExactCurvesOfUptoSaid : Prop := fnExactCurvesOfUptoRow.holds Try.pinned (OpenSpec.upto fnExactCurvesOfSpec)

/-- 'laws.FnExactParseMeander', WHERE WHAT IT READS IS OF BULK AT MOST 1048576: true; the input reads as it did. -/
def fnExactParseMeanderUptoRow : OpenClaim := { program := "ytoomehfmjgbbfaa", sum := "aef8b890d6afb43c40b8d9733669b0f30a48d43c2d5b3fa23d4b74f953972d30", func := "loop.example/g01126/laws.FnExactParseMeander", spec := "fnExactParseMeander", inPlace := ["internal/bytealg.IndexByteString", "internal/bytealg.IndexString"], named := ["internal/bytealg.MaxLen"], apart := false, narrowed := true }
def FnExactParseMeanderUptoSaid : Prop := fnExactParseMeanderUptoRow.holds Try.pinned (OpenSpec.upto fnExactParseMeanderSpec)

end Rows
end Go.Proofs.Ytoomehfmjgbbfaa
