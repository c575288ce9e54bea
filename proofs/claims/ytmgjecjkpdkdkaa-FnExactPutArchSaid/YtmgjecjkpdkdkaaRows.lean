/-
  No cell of these rows narrows 'for every input' (looked for: loops, veiled, ifaces, maps, wideKeys, modest, calm, conditions, laid).
  DERIVED. THE GIVEN ROWS OF THIS SEAT. 12 by the template 'for every input the law returns true; each argument reads behind the call as it read before'; 0 by the template 'total and deterministic' (their statements: YtmgjecjkpdkdkaaTotals.lean).
  GIVEN WITH THE SEED: the statements are not yours to turn. If you find one false, say at which input.
  Laid BY PROGRAM, IN A SANDBOX (cutbox-rows.mjs): the forced cells as the released guide's own fill.sh prints them over the translation 2f2849804afcbc03… (all of the seat's roots in one cut). By AI agents, Wed Nov 11 2026. No macro, syntax, notation, axiom, sorry.
-/
import Derived.Test.YtmgjecjkpdkdkaaChecked
import GoSem.Claim
import GoSem.ClaimJoined
import GoSem.ClaimMapViews
import Derived.JoinedTies
import Derived.KernelRfl
namespace Go.Proofs.Ytmgjecjkpdkdkaa
/- THE CELL 'sum', in the pinned program and in every row, IS THE sha256 OF THE DUMP (.gsa) THAT YtmgjecjkpdkdkaaProg.lean LOADS. Nothing in Lean hashes anything: it is a label: what it is worth is what the hold of that sum in a sandbox is worth. -/
noncomputable def Try.pinned : Pinned := { name := "ytmgjecjkpdkdkaa", sum := "2f2849804afcbc039155ebe428825e8c0dbc8c7e7dad6bd1029b0246b9a127c8", checked := Try.checked }
namespace Rows
def none {H : Type} : Left H := { results := [], args := [] }

/-- 'laws.FnExactSignOf': WHATEVER THE INPUT: true; the input reads as it did. -/
def fnExactSignOfSpec : ChangeSpec := { name := "fnExactSignOf", fn := fun _ => fun
  | [d] => { results := [.lit (.bool true)], args := [d] }
  | _ => none }
def fnExactSignOfRow : OpenClaim := { program := "ytmgjecjkpdkdkaa", sum := "2f2849804afcbc039155ebe428825e8c0dbc8c7e7dad6bd1029b0246b9a127c8", func := "loop.example/g01126/laws.FnExactSignOf", spec := "fnExactSignOf", apart := false }
def FnExactSignOfSaid : Prop := fnExactSignOfRow.holds Try.pinned (OpenSpec.ofChange fnExactSignOfSpec)

/-- ITS FALSE NEIGHBOUR: 'it returns false'. Refute it at one input. -/
def fnExactSignOfWrong : ChangeSpec := { name := "fnExactSignOf", fn := fun _ => fun
  | [d] => { results := [.lit (.bool false)], args := [d] }
  | _ => none }
def FnExactSignOfWrongFalsely : Prop := fnExactSignOfRow.holds Try.pinned (OpenSpec.ofChange fnExactSignOfWrong)

/-- 'laws.FnExactSystemText': WHATEVER THE INPUT: true; the input reads as it did. -/
def fnExactSystemTextSpec : ChangeSpec := { name := "fnExactSystemText", fn := fun _ => fun
  | [d] => { results := [.lit (.bool true)], args := [d] }
  | _ => none }
def fnExactSystemTextRow : OpenClaim := { program := "ytmgjecjkpdkdkaa", sum := "2f2849804afcbc039155ebe428825e8c0dbc8c7e7dad6bd1029b0246b9a127c8", func := "loop.example/g01126/laws.FnExactSystemText", spec := "fnExactSystemText", apart := false }
def FnExactSystemTextSaid : Prop := fnExactSystemTextRow.holds Try.pinned (OpenSpec.ofChange fnExactSystemTextSpec)

/-- ITS FALSE NEIGHBOUR: 'it returns false'. Refute it at one input. -/
def fnExactSystemTextWrong : ChangeSpec := { name := "fnExactSystemText", fn := fun _ => fun
  | [d] => { results := [.lit (.bool false)], args := [d] }
  | _ => none }
def FnExactSystemTextWrongFalsely : Prop := fnExactSystemTextRow.holds Try.pinned (OpenSpec.ofChange fnExactSystemTextWrong)

/-- 'laws.FnExactOuterArches': WHATEVER THE INPUT: true; the input reads as it did. -/
def fnExactOuterArchesSpec : ChangeSpec := { name := "fnExactOuterArches", fn := fun _ => fun
  | [d] => { results := [.lit (.bool true)], args := [d] }
  | _ => none }
def fnExactOuterArchesRow : OpenClaim := { program := "ytmgjecjkpdkdkaa", sum := "2f2849804afcbc039155ebe428825e8c0dbc8c7e7dad6bd1029b0246b9a127c8", func := "loop.example/g01126/laws.FnExactOuterArches", spec := "fnExactOuterArches", apart := false }
def FnExactOuterArchesSaid : Prop := fnExactOuterArchesRow.holds Try.pinned (OpenSpec.ofChange fnExactOuterArchesSpec)

/-- ITS FALSE NEIGHBOUR: 'it returns false'. Refute it at one input. -/
def fnExactOuterArchesWrong : ChangeSpec := { name := "fnExactOuterArches", fn := fun _ => fun
  | [d] => { results := [.lit (.bool false)], args := [d] }
  | _ => none }
def FnExactOuterArchesWrongFalsely : Prop := fnExactOuterArchesRow.holds Try.pinned (OpenSpec.ofChange fnExactOuterArchesWrong)

/-- 'laws.FnExactSmallArches': WHATEVER THE INPUT: true; the input reads as it did. -/
def fnExactSmallArchesSpec : ChangeSpec := { name := "fnExactSmallArches", fn := fun _ => fun
  | [d] => { results := [.lit (.bool true)], args := [d] }
  | _ => none }
def fnExactSmallArchesRow : OpenClaim := { program := "ytmgjecjkpdkdkaa", sum := "2f2849804afcbc039155ebe428825e8c0dbc8c7e7dad6bd1029b0246b9a127c8", func := "loop.example/g01126/laws.FnExactSmallArches", spec := "fnExactSmallArches", apart := false }
def FnExactSmallArchesSaid : Prop := fnExactSmallArchesRow.holds Try.pinned (OpenSpec.ofChange fnExactSmallArchesSpec)

/-- ITS FALSE NEIGHBOUR: 'it returns false'. Refute it at one input. -/
def fnExactSmallArchesWrong : ChangeSpec := { name := "fnExactSmallArches", fn := fun _ => fun
  | [d] => { results := [.lit (.bool false)], args := [d] }
  | _ => none }
def FnExactSmallArchesWrongFalsely : Prop := fnExactSmallArchesRow.holds Try.pinned (OpenSpec.ofChange fnExactSmallArchesWrong)

/-- 'laws.FnExactIsPair': WHATEVER THE INPUT: true; the input reads as it did. -/
def fnExactIsPairSpec : ChangeSpec := { name := "fnExactIsPair", fn := fun _ => fun
  | [d] => { results := [.lit (.bool true)], args := [d] }
  | _ => none }
def fnExactIsPairRow : OpenClaim := { program := "ytmgjecjkpdkdkaa", sum := "2f2849804afcbc039155ebe428825e8c0dbc8c7e7dad6bd1029b0246b9a127c8", func := "loop.example/g01126/laws.FnExactIsPair", spec := "fnExactIsPair", apart := false }
def FnExactIsPairSaid : Prop := fnExactIsPairRow.holds Try.pinned (OpenSpec.ofChange fnExactIsPairSpec)

/-- ITS FALSE NEIGHBOUR: 'it returns false'. Refute it at one input. -/
def fnExactIsPairWrong : ChangeSpec := { name := "fnExactIsPair", fn := fun _ => fun
  | [d] => { results := [.lit (.bool false)], args := [d] }
  | _ => none }
def FnExactIsPairWrongFalsely : Prop := fnExactIsPairRow.holds Try.pinned (OpenSpec.ofChange fnExactIsPairWrong)

/-- 'laws.FnExactCoverSystem': WHATEVER THE INPUT: true; the input reads as it did. -/
def fnExactCoverSystemSpec : ChangeSpec := { name := "fnExactCoverSystem", fn := fun _ => fun
  | [d] => { results := [.lit (.bool true)], args := [d] }
  | _ => none }
def fnExactCoverSystemRow : OpenClaim := { program := "ytmgjecjkpdkdkaa", sum := "2f2849804afcbc039155ebe428825e8c0dbc8c7e7dad6bd1029b0246b9a127c8", func := "loop.example/g01126/laws.FnExactCoverSystem", spec := "fnExactCoverSystem", apart := false }
def FnExactCoverSystemSaid : Prop := fnExactCoverSystemRow.holds Try.pinned (OpenSpec.ofChange fnExactCoverSystemSpec)

/-- ITS FALSE NEIGHBOUR: 'it returns false'. Refute it at one input. -/
def fnExactCoverSystemWrong : ChangeSpec := { name := "fnExactCoverSystem", fn := fun _ => fun
  | [d] => { results := [.lit (.bool false)], args := [d] }
  | _ => none }
def FnExactCoverSystemWrongFalsely : Prop := fnExactCoverSystemRow.holds Try.pinned (OpenSpec.ofChange fnExactCoverSystemWrong)

/-- 'laws.FnExactMirrorSystem': WHATEVER THE INPUT: true; the input reads as it did. -/
def fnExactMirrorSystemSpec : ChangeSpec := { name := "fnExactMirrorSystem", fn := fun _ => fun
  | [d] => { results := [.lit (.bool true)], args := [d] }
  | _ => none }
def fnExactMirrorSystemRow : OpenClaim := { program := "ytmgjecjkpdkdkaa", sum := "2f2849804afcbc039155ebe428825e8c0dbc8c7e7dad6bd1029b0246b9a127c8", func := "loop.example/g01126/laws.FnExactMirrorSystem", spec := "fnExactMirrorSystem", unfollowed := true, recurses := true, apart := false }
def FnExactMirrorSystemSaid : Prop := fnExactMirrorSystemRow.holds Try.pinned (OpenSpec.ofChange fnExactMirrorSystemSpec)

/-- ITS FALSE NEIGHBOUR: 'it returns false'. Refute it at one input. -/
def fnExactMirrorSystemWrong : ChangeSpec := { name := "fnExactMirrorSystem", fn := fun _ => fun
  | [d] => { results := [.lit (.bool false)], args := [d] }
  | _ => none }
def FnExactMirrorSystemWrongFalsely : Prop := fnExactMirrorSystemRow.holds Try.pinned (OpenSpec.ofChange fnExactMirrorSystemWrong)

/-- 'laws.FnExactTurnSystem': WHATEVER THE INPUT: true; the input reads as it did. -/
def fnExactTurnSystemSpec : ChangeSpec := { name := "fnExactTurnSystem", fn := fun _ => fun
  | [d1, d2] => { results := [.lit (.bool true)], args := [d1, d2] }
  | _ => none }
def fnExactTurnSystemRow : OpenClaim := { program := "ytmgjecjkpdkdkaa", sum := "2f2849804afcbc039155ebe428825e8c0dbc8c7e7dad6bd1029b0246b9a127c8", func := "loop.example/g01126/laws.FnExactTurnSystem", spec := "fnExactTurnSystem", unfollowed := true, recurses := true, apart := false }
def FnExactTurnSystemSaid : Prop := fnExactTurnSystemRow.holds Try.pinned (OpenSpec.ofChange fnExactTurnSystemSpec)

/-- ITS FALSE NEIGHBOUR: 'it returns false'. Refute it at one input. -/
def fnExactTurnSystemWrong : ChangeSpec := { name := "fnExactTurnSystem", fn := fun _ => fun
  | [d1, d2] => { results := [.lit (.bool false)], args := [d1, d2] }
  | _ => none }
def FnExactTurnSystemWrongFalsely : Prop := fnExactTurnSystemRow.holds Try.pinned (OpenSpec.ofChange fnExactTurnSystemWrong)

/-- 'laws.FnExactDepthsOf': WHATEVER THE INPUT: true; the input reads as it did. -/
def fnExactDepthsOfSpec : ChangeSpec := { name := "fnExactDepthsOf", fn := fun _ => fun
  | [d] => { results := [.lit (.bool true)], args := [d] }
  | _ => none }
def fnExactDepthsOfRow : OpenClaim := { program := "ytmgjecjkpdkdkaa", sum := "2f2849804afcbc039155ebe428825e8c0dbc8c7e7dad6bd1029b0246b9a127c8", func := "loop.example/g01126/laws.FnExactDepthsOf", spec := "fnExactDepthsOf", apart := false }
def FnExactDepthsOfSaid : Prop := fnExactDepthsOfRow.holds Try.pinned (OpenSpec.ofChange fnExactDepthsOfSpec)

/-- ITS FALSE NEIGHBOUR: 'it returns false'. Refute it at one input. -/
def fnExactDepthsOfWrong : ChangeSpec := { name := "fnExactDepthsOf", fn := fun _ => fun
  | [d] => { results := [.lit (.bool false)], args := [d] }
  | _ => none }
def FnExactDepthsOfWrongFalsely : Prop := fnExactDepthsOfRow.holds Try.pinned (OpenSpec.ofChange fnExactDepthsOfWrong)

/-- 'laws.FnExactJoinSystems': WHATEVER THE INPUT: true; the input reads as it did. -/
def fnExactJoinSystemsSpec : ChangeSpec := { name := "fnExactJoinSystems", fn := fun _ => fun
  | [d1, d2] => { results := [.lit (.bool true)], args := [d1, d2] }
  | _ => none }
def fnExactJoinSystemsRow : OpenClaim := { program := "ytmgjecjkpdkdkaa", sum := "2f2849804afcbc039155ebe428825e8c0dbc8c7e7dad6bd1029b0246b9a127c8", func := "loop.example/g01126/laws.FnExactJoinSystems", spec := "fnExactJoinSystems", apart := false }
def FnExactJoinSystemsSaid : Prop := fnExactJoinSystemsRow.holds Try.pinned (OpenSpec.ofChange fnExactJoinSystemsSpec)

/-- ITS FALSE NEIGHBOUR: 'it returns false'. Refute it at one input. -/
def fnExactJoinSystemsWrong : ChangeSpec := { name := "fnExactJoinSystems", fn := fun _ => fun
  | [d1, d2] => { results := [.lit (.bool false)], args := [d1, d2] }
  | _ => none }
def FnExactJoinSystemsWrongFalsely : Prop := fnExactJoinSystemsRow.holds Try.pinned (OpenSpec.ofChange fnExactJoinSystemsWrong)

/-- 'laws.FnExactPutArch': WHATEVER THE INPUT: true; the input reads as it did. -/
def fnExactPutArchSpec : ChangeSpec := { name := "fnExactPutArch", fn := fun _ => fun
  | [d1, d2, d3] => { results := [.lit (.bool true)], args := [d1, d2, d3] }
  | _ => none }
def fnExactPutArchRow : OpenClaim := { program := "ytmgjecjkpdkdkaa", sum := "2f2849804afcbc039155ebe428825e8c0dbc8c7e7dad6bd1029b0246b9a127c8", func := "loop.example/g01126/laws.FnExactPutArch", spec := "fnExactPutArch", unfollowed := true, recurses := true, apart := false }
def FnExactPutArchSaid : Prop := fnExactPutArchRow.holds Try.pinned (OpenSpec.ofChange fnExactPutArchSpec)

/-- ITS FALSE NEIGHBOUR: 'it returns false'. Refute it at one input. -/
def fnExactPutArchWrong : ChangeSpec := { name := "fnExactPutArch", fn := fun _ => fun
  | [d1, d2, d3] => { results := [.lit (.bool false)], args := [d1, d2, d3] }
  | _ => none }
def FnExactPutArchWrongFalsely : Prop := fnExactPutArchRow.holds Try.pinned (OpenSpec.ofChange fnExactPutArchWrong)

/-- 'laws.FnExactDropArch': WHATEVER THE INPUT: true; the input reads as it did. -/
def fnExactDropArchSpec : ChangeSpec := { name := "fnExactDropArch", fn := fun _ => fun
  | [d1, d2] => { results := [.lit (.bool true)], args := [d1, d2] }
  | _ => none }
def fnExactDropArchRow : OpenClaim := { program := "ytmgjecjkpdkdkaa", sum := "2f2849804afcbc039155ebe428825e8c0dbc8c7e7dad6bd1029b0246b9a127c8", func := "loop.example/g01126/laws.FnExactDropArch", spec := "fnExactDropArch", unfollowed := true, recurses := true, apart := false }
def FnExactDropArchSaid : Prop := fnExactDropArchRow.holds Try.pinned (OpenSpec.ofChange fnExactDropArchSpec)

/-- ITS FALSE NEIGHBOUR: 'it returns false'. Refute it at one input. -/
def fnExactDropArchWrong : ChangeSpec := { name := "fnExactDropArch", fn := fun _ => fun
  | [d1, d2] => { results := [.lit (.bool false)], args := [d1, d2] }
  | _ => none }
def FnExactDropArchWrongFalsely : Prop := fnExactDropArchRow.holds Try.pinned (OpenSpec.ofChange fnExactDropArchWrong)

/- THE SECOND FORM. 'bulk': how many values and letters a reading holds, each counted each time it is reached (what is shared counts as often as it is met; a slice's spare places count too). A statement '..UptoSaid' is the law's where the arguments, and the package variables that the reading takes, are together of bulk at most 1048576: NARROWER than '..Said'. Prove '..Said' where nothing that the law and all that it calls make is longer than what came in: it says more and counts as full. Else prove '..UptoSaid'. A law counts once. -/
mutual
def uptoBulk {H : Type} : DataW H → Nat
  | .lit (.string bytes) => bytes.length + 1
  | .lit _ => 1
  | .nil => 1
  | .ptr d => uptoBulk d + 1
  | .slice elems spare => uptoBulkAll elems + uptoBulkAll spare + 1
  | .agg parts => uptoBulkAll parts + 1
  | .iface _ d => uptoBulk d + 1
  | .map entries => uptoBulkEntries entries + 1
  | .held _ => 1
def uptoBulkAll {H : Type} : List (DataW H) → Nat
  | [] => 0
  | d :: r => uptoBulk d + uptoBulkAll r
def uptoBulkEntries {H : Type} : List (Lit × DataW H) → Nat
  | [] => 0
  | x :: r => uptoBulkEntry x + uptoBulkEntries r
def uptoBulkEntry {H : Type} : Lit × DataW H → Nat
  | (.string bytes, d) => bytes.length + uptoBulk d + 1
  | (_, d) => uptoBulk d + 1
 end
def uptoSmall : (H : Type) → List (DataW H) → Bool := fun _ ds => decide (uptoBulkAll ds ≤ 1048576)
def OpenSpec.upto (s : _root_.Go.ChangeSpec) : _root_.Go.OpenSpec := { _root_.Go.OpenSpec.ofChange s with cond := some uptoSmall }

/-- 'laws.FnExactSignOf', WHERE WHAT IT READS IS OF BULK AT MOST 1048576: true; the input reads as it did. -/
def fnExactSignOfUptoRow : OpenClaim := { program := "ytmgjecjkpdkdkaa", sum := "2f2849804afcbc039155ebe428825e8c0dbc8c7e7dad6bd1029b0246b9a127c8", func := "loop.example/g01126/laws.FnExactSignOf", spec := "fnExactSignOf", apart := false, narrowed := true }
def FnExactSignOfUptoSaid : Prop := fnExactSignOfUptoRow.holds Try.pinned (OpenSpec.upto fnExactSignOfSpec)

/-- 'laws.FnExactSystemText', WHERE WHAT IT READS IS OF BULK AT MOST 1048576: true; the input reads as it did. -/
def fnExactSystemTextUptoRow : OpenClaim := { program := "ytmgjecjkpdkdkaa", sum := "2f2849804afcbc039155ebe428825e8c0dbc8c7e7dad6bd1029b0246b9a127c8", func := "loop.example/g01126/laws.FnExactSystemText", spec := "fnExactSystemText", apart := false, narrowed := true }
def FnExactSystemTextUptoSaid : Prop := fnExactSystemTextUptoRow.holds Try.pinned (OpenSpec.upto fnExactSystemTextSpec)

/-- 'laws.FnExactOuterArches', WHERE WHAT IT READS IS OF BULK AT MOST 1048576: true; the input reads as it did. -/
def fnExactOuterArchesUptoRow : OpenClaim := { program := "ytmgjecjkpdkdkaa", sum := "2f2849804afcbc039155ebe428825e8c0dbc8c7e7dad6bd1029b0246b9a127c8", func := "loop.example/g01126/laws.FnExactOuterArches", spec := "fnExactOuterArches", apart := false, narrowed := true }
def FnExactOuterArchesUptoSaid : Prop := fnExactOuterArchesUptoRow.holds Try.pinned (OpenSpec.upto fnExactOuterArchesSpec)

/-- 'laws.FnExactSmallArches', WHERE WHAT IT READS IS OF BULK AT MOST 1048576: true; the input reads as it did. -/
def fnExactSmallArchesUptoRow : OpenClaim := { program := "ytmgjecjkpdkdkaa", sum := "2f2849804afcbc039155ebe428825e8c0dbc8c7e7dad6bd1029b0246b9a127c8", func := "loop.example/g01126/laws.FnExactSmallArches", spec := "fnExactSmallArches", apart := false, narrowed := true }
def FnExactSmallArchesUptoSaid : Prop := fnExactSmallArchesUptoRow.holds Try.pinned (OpenSpec.upto fnExactSmallArchesSpec)

/-- 'laws.FnExactIsPair', WHERE WHAT IT READS IS OF BULK AT MOST 1048576: true; the input reads as it did. -/
def fnExactIsPairUptoRow : OpenClaim := { program := "ytmgjecjkpdkdkaa", sum := "2f2849804afcbc039155ebe428825e8c0dbc8c7e7dad6bd1029b0246b9a127c8", func := "loop.example/g01126/laws.FnExactIsPair", spec := "fnExactIsPair", apart := false, narrowed := true }
def FnExactIsPairUptoSaid : Prop := fnExactIsPairUptoRow.holds Try.pinned (OpenSpec.upto fnExactIsPairSpec)

/-- 'laws.FnExactCoverSystem', WHERE WHAT IT READS IS OF BULK AT MOST 1048576: true; the input reads as it did. -/
def fnExactCoverSystemUptoRow : OpenClaim := { program := "ytmgjecjkpdkdkaa", sum := "2f2849804afcbc039155ebe428825e8c0dbc8c7e7dad6bd1029b0246b9a127c8", func := "loop.example/g01126/laws.FnExactCoverSystem", spec := "fnExactCoverSystem", apart := false, narrowed := true }
def FnExactCoverSystemUptoSaid : Prop := fnExactCoverSystemUptoRow.holds Try.pinned (OpenSpec.upto fnExactCoverSystemSpec)

/-- 'laws.FnExactMirrorSystem', WHERE WHAT IT READS IS OF BULK AT MOST 1048576: true; the input reads as it did. -/
def fnExactMirrorSystemUptoRow : OpenClaim := { program := "ytmgjecjkpdkdkaa", sum := "2f2849804afcbc039155ebe428825e8c0dbc8c7e7dad6bd1029b0246b9a127c8", func := "loop.example/g01126/laws.FnExactMirrorSystem", spec := "fnExactMirrorSystem", unfollowed := true, recurses := true, apart := false, narrowed := true }
def FnExactMirrorSystemUptoSaid : Prop := fnExactMirrorSystemUptoRow.holds Try.pinned (OpenSpec.upto fnExactMirrorSystemSpec)

/-- 'laws.FnExactTurnSystem', WHERE WHAT IT READS IS OF BULK AT MOST 1048576: true; the input reads as it did. -/
def fnExactTurnSystemUptoRow : OpenClaim := { program := "ytmgjecjkpdkdkaa", sum := "2f2849804afcbc039155ebe428825e8c0dbc8c7e7dad6bd1029b0246b9a127c8", func := "loop.example/g01126/laws.FnExactTurnSystem", spec := "fnExactTurnSystem", unfollowed := true, recurses := true, apart := false, narrowed := true }
def FnExactTurnSystemUptoSaid : Prop := fnExactTurnSystemUptoRow.holds Try.pinned (OpenSpec.upto fnExactTurnSystemSpec)

/-- 'laws.FnExactDepthsOf', WHERE WHAT IT READS IS OF BULK AT MOST 1048576: true; the input reads as it did. -/
def fnExactDepthsOfUptoRow : OpenClaim := { program := "ytmgjecjkpdkdkaa", sum := "2f2849804afcbc039155ebe428825e8c0dbc8c7e7dad6bd1029b0246b9a127c8", func := "loop.example/g01126/laws.FnExactDepthsOf", spec := "fnExactDepthsOf", apart := false, narrowed := true }
def FnExactDepthsOfUptoSaid : Prop := fnExactDepthsOfUptoRow.holds Try.pinned (OpenSpec.upto fnExactDepthsOfSpec)

/-- 'laws.FnExactJoinSystems', WHERE WHAT IT READS IS OF BULK AT MOST 1048576: true; the input reads as it did. -/
def fnExactJoinSystemsUptoRow : OpenClaim := { program := "ytmgjecjkpdkdkaa", sum := "2f2849804afcbc039155ebe428825e8c0dbc8c7e7dad6bd1029b0246b9a127c8", func := "loop.example/g01126/laws.FnExactJoinSystems", spec := "fnExactJoinSystems", apart := false, narrowed := true }
def FnExactJoinSystemsUptoSaid : Prop := fnExactJoinSystemsUptoRow.holds Try.pinned (OpenSpec.upto fnExactJoinSystemsSpec)

/-- 'laws.FnExactPutArch', WHERE WHAT IT READS IS OF BULK AT MOST 1048576: true; the input reads as it did. -/
def fnExactPutArchUptoRow : OpenClaim := { program := "ytmgjecjkpdkdkaa", sum := "2f2849804afcbc039155ebe428825e8c0dbc8c7e7dad6bd1029b0246b9a127c8", func := "loop.example/g01126/laws.FnExactPutArch", spec := "fnExactPutArch", unfollowed := true, recurses := true, apart := false, narrowed := true }
def FnExactPutArchUptoSaid : Prop := fnExactPutArchUptoRow.holds Try.pinned (OpenSpec.upto fnExactPutArchSpec)

/-- 'laws.FnExactDropArch', WHERE WHAT IT READS IS OF BULK AT MOST 1048576: true; the input reads as it did. -/
def fnExactDropArchUptoRow : OpenClaim := { program := "ytmgjecjkpdkdkaa", sum := "2f2849804afcbc039155ebe428825e8c0dbc8c7e7dad6bd1029b0246b9a127c8", func := "loop.example/g01126/laws.FnExactDropArch", spec := "fnExactDropArch", unfollowed := true, recurses := true, apart := false, narrowed := true }
def FnExactDropArchUptoSaid : Prop := fnExactDropArchUptoRow.holds Try.pinned (OpenSpec.upto fnExactDropArchSpec)

end Rows
end Go.Proofs.Ytmgjecjkpdkdkaa
