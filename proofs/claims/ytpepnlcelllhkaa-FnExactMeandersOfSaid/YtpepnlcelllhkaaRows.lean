/-
  No cell of these rows narrows 'for every input' (looked for: loops, veiled, ifaces, maps, wideKeys, modest, calm, conditions, laid).
  DERIVED. THE GIVEN ROWS OF THIS SEAT. 12 by the template 'for every input the law returns true; each argument reads behind the call as it read before'; 0 by the template 'total and deterministic' (their statements: YtpepnlcelllhkaaTotals.lean).
  GIVEN WITH THE SEED: the statements are not yours to turn. If you find one false, say at which input.
  Laid BY PROGRAM, IN A SANDBOX (cutbox-rows.mjs): the forced cells as the released guide's own fill.sh prints them over the translation 12bb6dc7865407d6… (all of the seat's roots in one cut). By AI agents, Wed Nov 11 2026. No macro, syntax, notation, axiom, sorry.
-/
import Derived.Test.YtpepnlcelllhkaaChecked
import GoSem.Claim
import GoSem.ClaimJoined
import GoSem.ClaimMapViews
import Derived.JoinedTies
import Derived.KernelRfl
namespace Go.Proofs.Ytpepnlcelllhkaa
/- THE CELL 'sum', in the pinned program and in every row, IS THE sha256 OF THE DUMP (.gsa) THAT YtpepnlcelllhkaaProg.lean LOADS. Nothing in Lean hashes anything: it is a label: what it is worth is what the hold of that sum in a sandbox is worth. -/
noncomputable def Try.pinned : Pinned := { name := "ytpepnlcelllhkaa", sum := "12bb6dc7865407d64dba234ccb0e50569f8a54e72882d40cced98810c1f8dee4", checked := Try.checked }
namespace Rows
def none {H : Type} : Left H := { results := [], args := [] }

/-- 'laws.FnExactCountSystems': WHATEVER THE INPUT: true; the input reads as it did. -/
def fnExactCountSystemsSpec : ChangeSpec := { name := "fnExactCountSystems", fn := fun _ => fun
  | [d] => { results := [.lit (.bool true)], args := [d] }
  | _ => none }
def fnExactCountSystemsRow : OpenClaim := { program := "ytpepnlcelllhkaa", sum := "12bb6dc7865407d64dba234ccb0e50569f8a54e72882d40cced98810c1f8dee4", func := "loop.example/g01126/laws.FnExactCountSystems", spec := "fnExactCountSystems", unfollowed := true, recurses := true, apart := false }
def FnExactCountSystemsSaid : Prop := fnExactCountSystemsRow.holds Try.pinned (OpenSpec.ofChange fnExactCountSystemsSpec)

/-- ITS FALSE NEIGHBOUR: 'it returns false'. Refute it at one input. -/
def fnExactCountSystemsWrong : ChangeSpec := { name := "fnExactCountSystems", fn := fun _ => fun
  | [d] => { results := [.lit (.bool false)], args := [d] }
  | _ => none }
def FnExactCountSystemsWrongFalsely : Prop := fnExactCountSystemsRow.holds Try.pinned (OpenSpec.ofChange fnExactCountSystemsWrong)

/-- 'laws.FnExactSystemWith': WHATEVER THE INPUT: true; the input reads as it did. -/
def fnExactSystemWithSpec : ChangeSpec := { name := "fnExactSystemWith", fn := fun _ => fun
  | [d1, d2] => { results := [.lit (.bool true)], args := [d1, d2] }
  | _ => none }
def fnExactSystemWithRow : OpenClaim := { program := "ytpepnlcelllhkaa", sum := "12bb6dc7865407d64dba234ccb0e50569f8a54e72882d40cced98810c1f8dee4", func := "loop.example/g01126/laws.FnExactSystemWith", spec := "fnExactSystemWith", unfollowed := true, recurses := true, apart := false }
def FnExactSystemWithSaid : Prop := fnExactSystemWithRow.holds Try.pinned (OpenSpec.ofChange fnExactSystemWithSpec)

/-- ITS FALSE NEIGHBOUR: 'it returns false'. Refute it at one input. -/
def fnExactSystemWithWrong : ChangeSpec := { name := "fnExactSystemWith", fn := fun _ => fun
  | [d1, d2] => { results := [.lit (.bool false)], args := [d1, d2] }
  | _ => none }
def FnExactSystemWithWrongFalsely : Prop := fnExactSystemWithRow.holds Try.pinned (OpenSpec.ofChange fnExactSystemWithWrong)

/-- 'laws.FnExactAllSystems': WHATEVER THE INPUT: true; the input reads as it did. -/
def fnExactAllSystemsSpec : ChangeSpec := { name := "fnExactAllSystems", fn := fun _ => fun
  | [d] => { results := [.lit (.bool true)], args := [d] }
  | _ => none }
def fnExactAllSystemsRow : OpenClaim := { program := "ytpepnlcelllhkaa", sum := "12bb6dc7865407d64dba234ccb0e50569f8a54e72882d40cced98810c1f8dee4", func := "loop.example/g01126/laws.FnExactAllSystems", spec := "fnExactAllSystems", unfollowed := true, recurses := true, apart := false }
def FnExactAllSystemsSaid : Prop := fnExactAllSystemsRow.holds Try.pinned (OpenSpec.ofChange fnExactAllSystemsSpec)

/-- ITS FALSE NEIGHBOUR: 'it returns false'. Refute it at one input. -/
def fnExactAllSystemsWrong : ChangeSpec := { name := "fnExactAllSystems", fn := fun _ => fun
  | [d] => { results := [.lit (.bool false)], args := [d] }
  | _ => none }
def FnExactAllSystemsWrongFalsely : Prop := fnExactAllSystemsRow.holds Try.pinned (OpenSpec.ofChange fnExactAllSystemsWrong)

/-- 'laws.FnExactRankSystem': WHATEVER THE INPUT: true; the input reads as it did. -/
def fnExactRankSystemSpec : ChangeSpec := { name := "fnExactRankSystem", fn := fun _ => fun
  | [d] => { results := [.lit (.bool true)], args := [d] }
  | _ => none }
def fnExactRankSystemRow : OpenClaim := { program := "ytpepnlcelllhkaa", sum := "12bb6dc7865407d64dba234ccb0e50569f8a54e72882d40cced98810c1f8dee4", func := "loop.example/g01126/laws.FnExactRankSystem", spec := "fnExactRankSystem", unfollowed := true, recurses := true, apart := false }
def FnExactRankSystemSaid : Prop := fnExactRankSystemRow.holds Try.pinned (OpenSpec.ofChange fnExactRankSystemSpec)

/-- ITS FALSE NEIGHBOUR: 'it returns false'. Refute it at one input. -/
def fnExactRankSystemWrong : ChangeSpec := { name := "fnExactRankSystem", fn := fun _ => fun
  | [d] => { results := [.lit (.bool false)], args := [d] }
  | _ => none }
def FnExactRankSystemWrongFalsely : Prop := fnExactRankSystemRow.holds Try.pinned (OpenSpec.ofChange fnExactRankSystemWrong)

/-- 'laws.FnExactNextSystem': WHATEVER THE INPUT: true; the input reads as it did. -/
def fnExactNextSystemSpec : ChangeSpec := { name := "fnExactNextSystem", fn := fun _ => fun
  | [d] => { results := [.lit (.bool true)], args := [d] }
  | _ => none }
def fnExactNextSystemRow : OpenClaim := { program := "ytpepnlcelllhkaa", sum := "12bb6dc7865407d64dba234ccb0e50569f8a54e72882d40cced98810c1f8dee4", func := "loop.example/g01126/laws.FnExactNextSystem", spec := "fnExactNextSystem", unfollowed := true, recurses := true, apart := false }
def FnExactNextSystemSaid : Prop := fnExactNextSystemRow.holds Try.pinned (OpenSpec.ofChange fnExactNextSystemSpec)

/-- ITS FALSE NEIGHBOUR: 'it returns false'. Refute it at one input. -/
def fnExactNextSystemWrong : ChangeSpec := { name := "fnExactNextSystem", fn := fun _ => fun
  | [d] => { results := [.lit (.bool false)], args := [d] }
  | _ => none }
def FnExactNextSystemWrongFalsely : Prop := fnExactNextSystemRow.holds Try.pinned (OpenSpec.ofChange fnExactNextSystemWrong)

/-- 'laws.FnExactCountByComponents': WHATEVER THE INPUT: true; the input reads as it did. -/
def fnExactCountByComponentsSpec : ChangeSpec := { name := "fnExactCountByComponents", fn := fun _ => fun
  | [d] => { results := [.lit (.bool true)], args := [d] }
  | _ => none }
def fnExactCountByComponentsRow : OpenClaim := { program := "ytpepnlcelllhkaa", sum := "12bb6dc7865407d64dba234ccb0e50569f8a54e72882d40cced98810c1f8dee4", func := "loop.example/g01126/laws.FnExactCountByComponents", spec := "fnExactCountByComponents", unfollowed := true, recurses := true, apart := false }
def FnExactCountByComponentsSaid : Prop := fnExactCountByComponentsRow.holds Try.pinned (OpenSpec.ofChange fnExactCountByComponentsSpec)

/-- ITS FALSE NEIGHBOUR: 'it returns false'. Refute it at one input. -/
def fnExactCountByComponentsWrong : ChangeSpec := { name := "fnExactCountByComponents", fn := fun _ => fun
  | [d] => { results := [.lit (.bool false)], args := [d] }
  | _ => none }
def FnExactCountByComponentsWrongFalsely : Prop := fnExactCountByComponentsRow.holds Try.pinned (OpenSpec.ofChange fnExactCountByComponentsWrong)

/-- 'laws.FnExactCountMeanders': WHATEVER THE INPUT: true; the input reads as it did. -/
def fnExactCountMeandersSpec : ChangeSpec := { name := "fnExactCountMeanders", fn := fun _ => fun
  | [d] => { results := [.lit (.bool true)], args := [d] }
  | _ => none }
def fnExactCountMeandersRow : OpenClaim := { program := "ytpepnlcelllhkaa", sum := "12bb6dc7865407d64dba234ccb0e50569f8a54e72882d40cced98810c1f8dee4", func := "loop.example/g01126/laws.FnExactCountMeanders", spec := "fnExactCountMeanders", unfollowed := true, recurses := true, apart := false }
def FnExactCountMeandersSaid : Prop := fnExactCountMeandersRow.holds Try.pinned (OpenSpec.ofChange fnExactCountMeandersSpec)

/-- ITS FALSE NEIGHBOUR: 'it returns false'. Refute it at one input. -/
def fnExactCountMeandersWrong : ChangeSpec := { name := "fnExactCountMeanders", fn := fun _ => fun
  | [d] => { results := [.lit (.bool false)], args := [d] }
  | _ => none }
def FnExactCountMeandersWrongFalsely : Prop := fnExactCountMeandersRow.holds Try.pinned (OpenSpec.ofChange fnExactCountMeandersWrong)

/-- 'laws.FnExactCountClosing': WHATEVER THE INPUT: true; the input reads as it did. -/
def fnExactCountClosingSpec : ChangeSpec := { name := "fnExactCountClosing", fn := fun _ => fun
  | [d1, d2] => { results := [.lit (.bool true)], args := [d1, d2] }
  | _ => none }
def fnExactCountClosingRow : OpenClaim := { program := "ytpepnlcelllhkaa", sum := "12bb6dc7865407d64dba234ccb0e50569f8a54e72882d40cced98810c1f8dee4", func := "loop.example/g01126/laws.FnExactCountClosing", spec := "fnExactCountClosing", unfollowed := true, recurses := true, apart := false }
def FnExactCountClosingSaid : Prop := fnExactCountClosingRow.holds Try.pinned (OpenSpec.ofChange fnExactCountClosingSpec)

/-- ITS FALSE NEIGHBOUR: 'it returns false'. Refute it at one input. -/
def fnExactCountClosingWrong : ChangeSpec := { name := "fnExactCountClosing", fn := fun _ => fun
  | [d1, d2] => { results := [.lit (.bool false)], args := [d1, d2] }
  | _ => none }
def FnExactCountClosingWrongFalsely : Prop := fnExactCountClosingRow.holds Try.pinned (OpenSpec.ofChange fnExactCountClosingWrong)

/-- 'laws.FnExactMeanderWith': WHATEVER THE INPUT: true; the input reads as it did. -/
def fnExactMeanderWithSpec : ChangeSpec := { name := "fnExactMeanderWith", fn := fun _ => fun
  | [d1, d2] => { results := [.lit (.bool true)], args := [d1, d2] }
  | _ => none }
def fnExactMeanderWithRow : OpenClaim := { program := "ytpepnlcelllhkaa", sum := "12bb6dc7865407d64dba234ccb0e50569f8a54e72882d40cced98810c1f8dee4", func := "loop.example/g01126/laws.FnExactMeanderWith", spec := "fnExactMeanderWith", unfollowed := true, recurses := true, apart := false }
def FnExactMeanderWithSaid : Prop := fnExactMeanderWithRow.holds Try.pinned (OpenSpec.ofChange fnExactMeanderWithSpec)

/-- ITS FALSE NEIGHBOUR: 'it returns false'. Refute it at one input. -/
def fnExactMeanderWithWrong : ChangeSpec := { name := "fnExactMeanderWith", fn := fun _ => fun
  | [d1, d2] => { results := [.lit (.bool false)], args := [d1, d2] }
  | _ => none }
def FnExactMeanderWithWrongFalsely : Prop := fnExactMeanderWithRow.holds Try.pinned (OpenSpec.ofChange fnExactMeanderWithWrong)

/-- 'laws.FnExactMeandersOf': WHATEVER THE INPUT: true; the input reads as it did. -/
def fnExactMeandersOfSpec : ChangeSpec := { name := "fnExactMeandersOf", fn := fun _ => fun
  | [d] => { results := [.lit (.bool true)], args := [d] }
  | _ => none }
def fnExactMeandersOfRow : OpenClaim := { program := "ytpepnlcelllhkaa", sum := "12bb6dc7865407d64dba234ccb0e50569f8a54e72882d40cced98810c1f8dee4", func := "loop.example/g01126/laws.FnExactMeandersOf", spec := "fnExactMeandersOf", unfollowed := true, recurses := true, apart := false }
def FnExactMeandersOfSaid : Prop := fnExactMeandersOfRow.holds Try.pinned (OpenSpec.ofChange fnExactMeandersOfSpec)

/-- ITS FALSE NEIGHBOUR: 'it returns false'. Refute it at one input. -/
def fnExactMeandersOfWrong : ChangeSpec := { name := "fnExactMeandersOf", fn := fun _ => fun
  | [d] => { results := [.lit (.bool false)], args := [d] }
  | _ => none }
def FnExactMeandersOfWrongFalsely : Prop := fnExactMeandersOfRow.holds Try.pinned (OpenSpec.ofChange fnExactMeandersOfWrong)

/-- 'laws.FnExactClosingWith': WHATEVER THE INPUT: true; the input reads as it did. -/
def fnExactClosingWithSpec : ChangeSpec := { name := "fnExactClosingWith", fn := fun _ => fun
  | [d] => { results := [.lit (.bool true)], args := [d] }
  | _ => none }
def fnExactClosingWithRow : OpenClaim := { program := "ytpepnlcelllhkaa", sum := "12bb6dc7865407d64dba234ccb0e50569f8a54e72882d40cced98810c1f8dee4", func := "loop.example/g01126/laws.FnExactClosingWith", spec := "fnExactClosingWith", unfollowed := true, recurses := true, apart := false }
def FnExactClosingWithSaid : Prop := fnExactClosingWithRow.holds Try.pinned (OpenSpec.ofChange fnExactClosingWithSpec)

/-- ITS FALSE NEIGHBOUR: 'it returns false'. Refute it at one input. -/
def fnExactClosingWithWrong : ChangeSpec := { name := "fnExactClosingWith", fn := fun _ => fun
  | [d] => { results := [.lit (.bool false)], args := [d] }
  | _ => none }
def FnExactClosingWithWrongFalsely : Prop := fnExactClosingWithRow.holds Try.pinned (OpenSpec.ofChange fnExactClosingWithWrong)

/-- 'laws.FnExactRankMeander': WHATEVER THE INPUT: true; the input reads as it did. -/
def fnExactRankMeanderSpec : ChangeSpec := { name := "fnExactRankMeander", fn := fun _ => fun
  | [d] => { results := [.lit (.bool true)], args := [d] }
  | _ => none }
def fnExactRankMeanderRow : OpenClaim := { program := "ytpepnlcelllhkaa", sum := "12bb6dc7865407d64dba234ccb0e50569f8a54e72882d40cced98810c1f8dee4", func := "loop.example/g01126/laws.FnExactRankMeander", spec := "fnExactRankMeander", unfollowed := true, recurses := true, apart := false }
def FnExactRankMeanderSaid : Prop := fnExactRankMeanderRow.holds Try.pinned (OpenSpec.ofChange fnExactRankMeanderSpec)

/-- ITS FALSE NEIGHBOUR: 'it returns false'. Refute it at one input. -/
def fnExactRankMeanderWrong : ChangeSpec := { name := "fnExactRankMeander", fn := fun _ => fun
  | [d] => { results := [.lit (.bool false)], args := [d] }
  | _ => none }
def FnExactRankMeanderWrongFalsely : Prop := fnExactRankMeanderRow.holds Try.pinned (OpenSpec.ofChange fnExactRankMeanderWrong)

/- THE SECOND FORM. 'bulk': how many values and letters a reading holds, each counted each time it is reached (what is shared counts as often as it is met; a slice's spare places count too). A statement '..UptoSaid' is the law's where the arguments, and the package variables that the reading takes, are together of bulk at most 1048576: NARROWER than '..Said'. Prove '..Said' where nothing that the law and all that it calls make is longer than what came in: it says more and counts as full. Else prove '..UptoSaid'. A law counts once. -/
mutual
def uptoBulk {H : Type} : DataW H → Nat
  | .lit (.string bytes) => bytes.length + 1
  | .lit _ => 1
  | .nil => 1
  | .ptr d => uptoBulk d + 1
  | .slice elems spare => uptoBulkAll elems + uptoBulkAll spare + 1
  | .agg parts => uptoBulkAll parts + 1
  | .iface _ d => uptoBulk d + 1
  | .map entries => uptoBulkEntries entries + 1
  | .held _ => 1
def uptoBulkAll {H : Type} : List (DataW H) → Nat
  | [] => 0
  | d :: r => uptoBulk d + uptoBulkAll r
def uptoBulkEntries {H : Type} : List (Lit × DataW H) → Nat
  | [] => 0
  | x :: r => uptoBulkEntry x + uptoBulkEntries r
def uptoBulkEntry {H : Type} : Lit × DataW H → Nat
  | (.string bytes, d) => bytes.length + uptoBulk d + 1
  | (_, d) => uptoBulk d + 1
 end
def uptoSmall : (H : Type) → List (DataW H) → Bool := fun _ ds => decide (uptoBulkAll ds ≤ 1048576)
def OpenSpec.upto (s : _root_.Go.ChangeSpec) : _root_.Go.OpenSpec := { _root_.Go.OpenSpec.ofChange s with cond := some uptoSmall }

/-- 'laws.FnExactCountSystems', WHERE WHAT IT READS IS OF BULK AT MOST 1048576: true; the input reads as it did. -/
def fnExactCountSystemsUptoRow : OpenClaim := { program := "ytpepnlcelllhkaa", sum := "12bb6dc7865407d64dba234ccb0e50569f8a54e72882d40cced98810c1f8dee4", func := "loop.example/g01126/laws.FnExactCountSystems", spec := "fnExactCountSystems", unfollowed := true, recurses := true, apart := false, narrowed := true }
def FnExactCountSystemsUptoSaid : Prop := fnExactCountSystemsUptoRow.holds Try.pinned (OpenSpec.upto fnExactCountSystemsSpec)

/-- 'laws.FnExactSystemWith', WHERE WHAT IT READS IS OF BULK AT MOST 1048576: true; the input reads as it did. -/
def fnExactSystemWithUptoRow : OpenClaim := { program := "ytpepnlcelllhkaa", sum := "12bb6dc7865407d64dba234ccb0e50569f8a54e72882d40cced98810c1f8dee4", func := "loop.example/g01126/laws.FnExactSystemWith", spec := "fnExactSystemWith", unfollowed := true, recurses := true, apart := false, narrowed := true }
def FnExactSystemWithUptoSaid : Prop := fnExactSystemWithUptoRow.holds Try.pinned (OpenSpec.upto fnExactSystemWithSpec)

/-- 'laws.FnExactAllSystems', WHERE WHAT IT READS IS OF BULK AT MOST 1048576: true; the input reads as it did. -/
def fnExactAllSystemsUptoRow : OpenClaim := { program := "ytpepnlcelllhkaa", sum := "12bb6dc7865407d64dba234ccb0e50569f8a54e72882d40cced98810c1f8dee4", func := "loop.example/g01126/laws.FnExactAllSystems", spec := "fnExactAllSystems", unfollowed := true, recurses := true, apart := false, narrowed := true }
def FnExactAllSystemsUptoSaid : Prop := fnExactAllSystemsUptoRow.holds Try.pinned (OpenSpec.upto fnExactAllSystemsSpec)

/-- 'laws.FnExactRankSystem', WHERE WHAT IT READS IS OF BULK AT MOST 1048576: true; the input reads as it did. -/
def fnExactRankSystemUptoRow : OpenClaim := { program := "ytpepnlcelllhkaa", sum := "12bb6dc7865407d64dba234ccb0e50569f8a54e72882d40cced98810c1f8dee4", func := "loop.example/g01126/laws.FnExactRankSystem", spec := "fnExactRankSystem", unfollowed := true, recurses := true, apart := false, narrowed := true }
def FnExactRankSystemUptoSaid : Prop := fnExactRankSystemUptoRow.holds Try.pinned (OpenSpec.upto fnExactRankSystemSpec)

/-- 'laws.FnExactNextSystem', WHERE WHAT IT READS IS OF BULK AT MOST 1048576: true; the input reads as it did. -/
def fnExactNextSystemUptoRow : OpenClaim := { program := "ytpepnlcelllhkaa", sum := "12bb6dc7865407d64dba234ccb0e50569f8a54e72882d40cced98810c1f8dee4", func := "loop.example/g01126/laws.FnExactNextSystem", spec := "fnExactNextSystem", unfollowed := true, recurses := true, apart := false, narrowed := true }
def FnExactNextSystemUptoSaid : Prop := fnExactNextSystemUptoRow.holds Try.pinned (OpenSpec.upto fnExactNextSystemSpec)

/-- 'laws.FnExactCountByComponents', WHERE WHAT IT READS IS OF BULK AT MOST 1048576: true; the input reads as it did. -/
def fnExactCountByComponentsUptoRow : OpenClaim := { program := "ytpepnlcelllhkaa", sum := "12bb6dc7865407d64dba234ccb0e50569f8a54e72882d40cced98810c1f8dee4", func := "loop.example/g01126/laws.FnExactCountByComponents", spec := "fnExactCountByComponents", unfollowed := true, recurses := true, apart := false, narrowed := true }
def FnExactCountByComponentsUptoSaid : Prop := fnExactCountByComponentsUptoRow.holds Try.pinned (OpenSpec.upto fnExactCountByComponentsSpec)

/-- 'laws.FnExactCountMeanders', WHERE WHAT IT READS IS OF BULK AT MOST 1048576: true; the input reads as it did. -/
def fnExactCountMeandersUptoRow : OpenClaim := { program := "ytpepnlcelllhkaa", sum := "12bb6dc7865407d64dba234ccb0e50569f8a54e72882d40cced98810c1f8dee4", func := "loop.example/g01126/laws.FnExactCountMeanders", spec := "fnExactCountMeanders", unfollowed := true, recurses := true, apart := false, narrowed := true }
def FnExactCountMeandersUptoSaid : Prop := fnExactCountMeandersUptoRow.holds Try.pinned (OpenSpec.upto fnExactCountMeandersSpec)

/-- 'laws.FnExactCountClosing', WHERE WHAT IT READS IS OF BULK AT MOST 1048576: true; the input reads as it did. -/
def fnExactCountClosingUptoRow : OpenClaim := { program := "ytpepnlcelllhkaa", sum := "12bb6dc7865407d64dba234ccb0e50569f8a54e72882d40cced98810c1f8dee4", func := "loop.example/g01126/laws.FnExactCountClosing", spec := "fnExactCountClosing", unfollowed := true, recurses := true, apart := false, narrowed := true }
def FnExactCountClosingUptoSaid : Prop := fnExactCountClosingUptoRow.holds Try.pinned (OpenSpec.upto fnExactCountClosingSpec)

/-- 'laws.FnExactMeanderWith', WHERE WHAT IT READS IS OF BULK AT MOST 1048576: true; the input reads as it did. -/
def fnExactMeanderWithUptoRow : OpenClaim := { program := "ytpepnlcelllhkaa", sum := "12bb6dc7865407d64dba234ccb0e50569f8a54e72882d40cced98810c1f8dee4", func := "loop.example/g01126/laws.FnExactMeanderWith", spec := "fnExactMeanderWith", unfollowed := true, recurses := true, apart := false, narrowed := true }
def FnExactMeanderWithUptoSaid : Prop := fnExactMeanderWithUptoRow.holds Try.pinned (OpenSpec.upto fnExactMeanderWithSpec)

/-- 'laws.FnExactMeandersOf', WHERE WHAT IT READS IS OF BULK AT MOST 1048576: true; the input reads as it did. -/
def fnExactMeandersOfUptoRow : OpenClaim := { program := "ytpepnlcelllhkaa", sum := "12bb6dc7865407d64dba234ccb0e50569f8a54e72882d40cced98810c1f8dee4", func := "loop.example/g01126/laws.FnExactMeandersOf", spec := "fnExactMeandersOf", unfollowed := true, recurses := true, apart := false, narrowed := true }
def FnExactMeandersOfUptoSaid : Prop := fnExactMeandersOfUptoRow.holds Try.pinned (OpenSpec.upto fnExactMeandersOfSpec)

/-- 'laws.FnExactClosingWith', WHERE WHAT IT READS IS OF BULK AT MOST 1048576: true; the input reads as it did. -/
def fnExactClosingWithUptoRow : OpenClaim := { program := "ytpepnlcelllhkaa", sum := "12bb6dc7865407d64dba234ccb0e50569f8a54e72882d40cced98810c1f8dee4", func := "loop.example/g01126/laws.FnExactClosingWith", spec := "fnExactClosingWith", unfollowed := true, recurses := true, apart := false, narrowed := true }
def FnExactClosingWithUptoSaid : Prop := fnExactClosingWithUptoRow.holds Try.pinned (OpenSpec.upto fnExactClosingWithSpec)

/-- 'laws.FnExactRankMeander', WHERE WHAT IT READS IS OF BULK AT MOST 1048576: true; the input reads as it did. -/
def fnExactRankMeanderUptoRow : OpenClaim := { program := "ytpepnlcelllhkaa", sum := "12bb6dc7865407d64dba234ccb0e50569f8a54e72882d40cced98810c1f8dee4", func := "loop.example/g01126/laws.FnExactRankMeander", spec := "fnExactRankMeander", unfollowed := true, recurses := true, apart := false, narrowed := true }
def FnExactRankMeanderUptoSaid : Prop := fnExactRankMeanderUptoRow.holds Try.pinned (OpenSpec.upto fnExactRankMeanderSpec)

end Rows
end Go.Proofs.Ytpepnlcelllhkaa
