/-
  No cell of these rows narrows 'for every input' (looked for: loops, veiled, ifaces, maps, wideKeys, modest, calm, conditions, laid).
  DERIVED. THE GIVEN ROWS OF THIS SEAT. 6 by the template 'for every input the law returns true; each argument reads behind the call as it read before'; 0 by the template 'total and deterministic' (their statements: YtglneifblgncaaaTotals.lean).
  GIVEN WITH THE SEED: the statements are not yours to turn. If you find one false, say at which input.
  Laid BY PROGRAM, IN A SANDBOX (cutbox-rows.mjs): the forced cells as the released guide's own fill.sh prints them over the translation 9ede2f1ae2446e43… (all of the seat's roots in one cut). By AI agents, Wed Nov 11 2026. No macro, syntax, notation, axiom, sorry.
-/
import Derived.Test.YtglneifblgncaaaChecked
import GoSem.Claim
import GoSem.ClaimJoined
import GoSem.ClaimMapViews
import Derived.JoinedTies
import Derived.KernelRfl
namespace Go.Proofs.Ytglneifblgncaaa
/- THE CELL 'sum', in the pinned program and in every row, IS THE sha256 OF THE DUMP (.gsa) THAT YtglneifblgncaaaProg.lean LOADS. Nothing in Lean hashes anything: it is a label: what it is worth is what the hold of that sum in a sandbox is worth. -/
noncomputable def Try.pinned : Pinned := { name := "ytglneifblgncaaa", sum := "9ede2f1ae2446e43ae5c7f3f50defa0b4dbee58dcdf96166359087a39496962e", checked := Try.checked }
namespace Rows
def none {H : Type} : Left H := { results := [], args := [] }

/-- 'laws.FnExactConstants': WHATEVER THE INPUT: true; the input reads as it did. -/
def fnExactConstantsSpec : ChangeSpec := { name := "fnExactConstants", fn := fun _ => fun
  | [] => { results := [.lit (.bool true)], args := [] }
  | _ => none }
def fnExactConstantsRow : OpenClaim := { program := "ytglneifblgncaaa", sum := "9ede2f1ae2446e43ae5c7f3f50defa0b4dbee58dcdf96166359087a39496962e", func := "loop.example/g01126/laws.FnExactConstants", spec := "fnExactConstants", apart := false }
def FnExactConstantsSaid : Prop := fnExactConstantsRow.holds Try.pinned (OpenSpec.ofChange fnExactConstantsSpec)

/-- ITS FALSE NEIGHBOUR: 'it returns false'. Refute it at one input. -/
def fnExactConstantsWrong : ChangeSpec := { name := "fnExactConstants", fn := fun _ => fun
  | [] => { results := [.lit (.bool false)], args := [] }
  | _ => none }
def FnExactConstantsWrongFalsely : Prop := fnExactConstantsRow.holds Try.pinned (OpenSpec.ofChange fnExactConstantsWrong)

/-- 'laws.FnExactFlatOf': WHATEVER THE INPUT: true; the input reads as it did. -/
def fnExactFlatOfSpec : ChangeSpec := { name := "fnExactFlatOf", fn := fun _ => fun
  | [d] => { results := [.lit (.bool true)], args := [d] }
  | _ => none }
def fnExactFlatOfRow : OpenClaim := { program := "ytglneifblgncaaa", sum := "9ede2f1ae2446e43ae5c7f3f50defa0b4dbee58dcdf96166359087a39496962e", func := "loop.example/g01126/laws.FnExactFlatOf", spec := "fnExactFlatOf", apart := false }
def FnExactFlatOfSaid : Prop := fnExactFlatOfRow.holds Try.pinned (OpenSpec.ofChange fnExactFlatOfSpec)

/-- ITS FALSE NEIGHBOUR: 'it returns false'. Refute it at one input. -/
def fnExactFlatOfWrong : ChangeSpec := { name := "fnExactFlatOf", fn := fun _ => fun
  | [d] => { results := [.lit (.bool false)], args := [d] }
  | _ => none }
def FnExactFlatOfWrongFalsely : Prop := fnExactFlatOfRow.holds Try.pinned (OpenSpec.ofChange fnExactFlatOfWrong)

/-- 'laws.FnExactRainbowOf': WHATEVER THE INPUT: true; the input reads as it did. -/
def fnExactRainbowOfSpec : ChangeSpec := { name := "fnExactRainbowOf", fn := fun _ => fun
  | [d] => { results := [.lit (.bool true)], args := [d] }
  | _ => none }
def fnExactRainbowOfRow : OpenClaim := { program := "ytglneifblgncaaa", sum := "9ede2f1ae2446e43ae5c7f3f50defa0b4dbee58dcdf96166359087a39496962e", func := "loop.example/g01126/laws.FnExactRainbowOf", spec := "fnExactRainbowOf", apart := false }
def FnExactRainbowOfSaid : Prop := fnExactRainbowOfRow.holds Try.pinned (OpenSpec.ofChange fnExactRainbowOfSpec)

/-- ITS FALSE NEIGHBOUR: 'it returns false'. Refute it at one input. -/
def fnExactRainbowOfWrong : ChangeSpec := { name := "fnExactRainbowOf", fn := fun _ => fun
  | [d] => { results := [.lit (.bool false)], args := [d] }
  | _ => none }
def FnExactRainbowOfWrongFalsely : Prop := fnExactRainbowOfRow.holds Try.pinned (OpenSpec.ofChange fnExactRainbowOfWrong)

/-- 'laws.FnExactIsSystem': WHATEVER THE INPUT: true; the input reads as it did. -/
def fnExactIsSystemSpec : ChangeSpec := { name := "fnExactIsSystem", fn := fun _ => fun
  | [d] => { results := [.lit (.bool true)], args := [d] }
  | _ => none }
def fnExactIsSystemRow : OpenClaim := { program := "ytglneifblgncaaa", sum := "9ede2f1ae2446e43ae5c7f3f50defa0b4dbee58dcdf96166359087a39496962e", func := "loop.example/g01126/laws.FnExactIsSystem", spec := "fnExactIsSystem", apart := false }
def FnExactIsSystemSaid : Prop := fnExactIsSystemRow.holds Try.pinned (OpenSpec.ofChange fnExactIsSystemSpec)

/-- ITS FALSE NEIGHBOUR: 'it returns false'. Refute it at one input. -/
def fnExactIsSystemWrong : ChangeSpec := { name := "fnExactIsSystem", fn := fun _ => fun
  | [d] => { results := [.lit (.bool false)], args := [d] }
  | _ => none }
def FnExactIsSystemWrongFalsely : Prop := fnExactIsSystemRow.holds Try.pinned (OpenSpec.ofChange fnExactIsSystemWrong)

/-- 'laws.FnExactParseSystem': WHATEVER THE INPUT: true; the input reads as it did. -/
def fnExactParseSystemSpec : ChangeSpec := { name := "fnExactParseSystem", fn := fun _ => fun
  | [d] => { results := [.lit (.bool true)], args := [d] }
  | _ => none }
def fnExactParseSystemRow : OpenClaim := { program := "ytglneifblgncaaa", sum := "9ede2f1ae2446e43ae5c7f3f50defa0b4dbee58dcdf96166359087a39496962e", func := "loop.example/g01126/laws.FnExactParseSystem", spec := "fnExactParseSystem", apart := false }
def FnExactParseSystemSaid : Prop := fnExactParseSystemRow.holds Try.pinned (OpenSpec.ofChange fnExactParseSystemSpec)

/-- ITS FALSE NEIGHBOUR: 'it returns false'. Refute it at one input. -/
def fnExactParseSystemWrong : ChangeSpec := { name := "fnExactParseSystem", fn := fun _ => fun
  | [d] => { results := [.lit (.bool false)], args := [d] }
  | _ => none }
def FnExactParseSystemWrongFalsely : Prop := fnExactParseSystemRow.holds Try.pinned (OpenSpec.ofChange fnExactParseSystemWrong)

/-- 'laws.FnExactWindingOf': WHATEVER THE INPUT: true; the input reads as it did. -/
def fnExactWindingOfSpec : ChangeSpec := { name := "fnExactWindingOf", fn := fun _ => fun
  | [d] => { results := [.lit (.bool true)], args := [d] }
  | _ => none }
def fnExactWindingOfRow : OpenClaim := { program := "ytglneifblgncaaa", sum := "9ede2f1ae2446e43ae5c7f3f50defa0b4dbee58dcdf96166359087a39496962e", func := "loop.example/g01126/laws.FnExactWindingOf", spec := "fnExactWindingOf", apart := false }
def FnExactWindingOfSaid : Prop := fnExactWindingOfRow.holds Try.pinned (OpenSpec.ofChange fnExactWindingOfSpec)

/-- ITS FALSE NEIGHBOUR: 'it returns false'. Refute it at one input. -/
def fnExactWindingOfWrong : ChangeSpec := { name := "fnExactWindingOf", fn := fun _ => fun
  | [d] => { results := [.lit (.bool false)], args := [d] }
  | _ => none }
def FnExactWindingOfWrongFalsely : Prop := fnExactWindingOfRow.holds Try.pinned (OpenSpec.ofChange fnExactWindingOfWrong)

/- THE SECOND FORM. 'bulk': how many values and letters a reading holds, each counted each time it is reached (what is shared counts as often as it is met; a slice's spare places count too). A statement '..UptoSaid' is the law's where the arguments, and the package variables that the reading takes, are together of bulk at most 1048576: NARROWER than '..Said'. Prove '..Said' where nothing that the law and all that it calls make is longer than what came in: it says more and counts as full. Else prove '..UptoSaid'. A law counts once. -/
mutual
def uptoBulk {H : Type} : DataW H → Nat
  | .lit (.string bytes) => bytes.length + 1
  | .lit _ => 1
  | .nil => 1
  | .ptr d => uptoBulk d + 1
  | .slice elems spare => uptoBulkAll elems + uptoBulkAll spare + 1
  | .agg parts => uptoBulkAll parts + 1
  | .iface _ d => uptoBulk d + 1
  | .map entries => uptoBulkEntries entries + 1
  | .held _ => 1
def uptoBulkAll {H : Type} : List (DataW H) → Nat
  | [] => 0
  | d :: r => uptoBulk d + uptoBulkAll r
def uptoBulkEntries {H : Type} : List (Lit × DataW H) → Nat
  | [] => 0
  | x :: r => uptoBulkEntry x + uptoBulkEntries r
def uptoBulkEntry {H : Type} : Lit × DataW H → Nat
  | (.string bytes, d) => bytes.length + uptoBulk d + 1
  | (_, d) => uptoBulk d + 1
 end
def uptoSmall : (H : Type) → List (DataW H) → Bool := fun _ ds => decide (uptoBulkAll ds ≤ 1048576)
def OpenSpec.upto (s : _root_.Go.ChangeSpec) : _root_.Go.OpenSpec := { _root_.Go.OpenSpec.ofChange s with cond := some uptoSmall }

/-- 'laws.FnExactConstants', WHERE WHAT IT READS IS OF BULK AT MOST 1048576: true; the input reads as it did. -/
def fnExactConstantsUptoRow : OpenClaim := { program := "ytglneifblgncaaa", sum := "9ede2f1ae2446e43ae5c7f3f50defa0b4dbee58dcdf96166359087a39496962e", func := "loop.example/g01126/laws.FnExactConstants", spec := "fnExactConstants", apart := false, narrowed := true }
def FnExactConstantsUptoSaid : Prop := fnExactConstantsUptoRow.holds Try.pinned (OpenSpec.upto fnExactConstantsSpec)

/-- 'laws.FnExactFlatOf', WHERE WHAT IT READS IS OF BULK AT MOST 1048576: true; the input reads as it did. -/
def fnExactFlatOfUptoRow : OpenClaim := { program := "ytglneifblgncaaa", sum := "9ede2f1ae2446e43ae5c7f3f50defa0b4dbee58dcdf96166359087a39496962e", func := "loop.example/g01126/laws.FnExactFlatOf", spec := "fnExactFlatOf", apart := false, narrowed := true }
def FnExactFlatOfUptoSaid : Prop := fnExactFlatOfUptoRow.holds Try.pinned (OpenSpec.upto fnExactFlatOfSpec)

/-- 'laws.FnExactRainbowOf', WHERE WHAT IT READS IS OF BULK AT MOST 1048576: true; the input reads as it did. -/
def fnExactRainbowOfUptoRow : OpenClaim := { program := "ytglneifblgncaaa", sum := "9ede2f1ae2446e43ae5c7f3f50defa0b4dbee58dcdf96166359087a39496962e", func := "loop.example/g01126/laws.FnExactRainbowOf", spec := "fnExactRainbowOf", apart := false, narrowed := true }
def FnExactRainbowOfUptoSaid : Prop := fnExactRainbowOfUptoRow.holds Try.pinned (OpenSpec.upto fnExactRainbowOfSpec)

/-- 'laws.FnExactIsSystem', WHERE WHAT IT READS IS OF BULK AT MOST 1048576: true; the input reads as it did. -/
def fnExactIsSystemUptoRow : OpenClaim := { program := "ytglneifblgncaaa", sum := "9ede2f1ae2446e43ae5c7f3f50defa0b4dbee58dcdf96166359087a39496962e", func := "loop.example/g01126/laws.FnExactIsSystem", spec := "fnExactIsSystem", apart := false, narrowed := true }
def FnExactIsSystemUptoSaid : Prop := fnExactIsSystemUptoRow.holds Try.pinned (OpenSpec.upto fnExactIsSystemSpec)

/-- 'laws.FnExactParseSystem', WHERE WHAT IT READS IS OF BULK AT MOST 1048576: true; the input reads as it did. -/
def fnExactParseSystemUptoRow : OpenClaim := { program := "ytglneifblgncaaa", sum := "9ede2f1ae2446e43ae5c7f3f50defa0b4dbee58dcdf96166359087a39496962e", func := "loop.example/g01126/laws.FnExactParseSystem", spec := "fnExactParseSystem", apart := false, narrowed := true }
def FnExactParseSystemUptoSaid : Prop := fnExactParseSystemUptoRow.holds Try.pinned (OpenSpec.upto fnExactParseSystemSpec)

/-- 'laws.FnExactWindingOf', WHERE WHAT IT READS IS OF BULK AT MOST 1048576: true; the input reads as it did. -/
def fnExactWindingOfUptoRow : OpenClaim := { program := "ytglneifblgncaaa", sum := "9ede2f1ae2446e43ae5c7f3f50defa0b4dbee58dcdf96166359087a39496962e", func := "loop.example/g01126/laws.FnExactWindingOf", spec := "fnExactWindingOf", apart := false, narrowed := true }
def FnExactWindingOfUptoSaid : Prop := fnExactWindingOfUptoRow.holds Try.pinned (OpenSpec.upto fnExactWindingOfSpec)

end Rows
end Go.Proofs.Ytglneifblgncaaa
