-- Written by wip/myprint.py (a program of mine round the kit's printer). Lean checks it.
import Derived.Test.YtbjdhipkdcfmlaaProg
import Derived.Below
import Derived.Deep.Draws
import Derived.Deep.AppendLies
import Derived.Maps.AppendAt
import Derived.OwnWalk
import Derived.Laws.BytesArg
import Derived.Laws.MakeOwn
import Derived.Laws.OwnMore
import Derived.Deep.OwnRows
import Derived.Tactics
import Derived.Lib.ConvBytes
import Derived.Laws.Slices
import Derived.WalkKit
import Derived.KernelRfl
import Derived.RowKit3
import Derived.Deep.LoopGhost
import Derived.Deep.QuietTactic
import Derived.BigQuiet
import Derived.WideLaws
import Derived.Deep.DeepCutAuto
import Derived.Deep.CutBlock
import Derived.Deep.RegionHeld3
import Derived.Laws.Rows
import Derived.Lib.AppendStr
import Derived.ArgAppend
import Derived.Laws.IdiomCopy
import Derived.OrdersHeld
import Derived.Laws.BitsLemmas
import Derived.RowKit
import Derived.Lib.SliceRun
import Derived.Laws.CopyOwn
import Derived.Deep.RegionLaw
import Derived.Lib.Strings
import Derived.Lib.Slices
import Derived.Lib.Walk
import Derived.Lib.Bytealg
import Derived.Test.YtbjdhipkdcfmlaaWWords
import Derived.Test.YtbjdhipkdcfmlaaWLast
import Derived.Test.YtbjdhipkdcfmlaaWTab
import Derived.Test.YtbjdhipkdcfmlaaWFour
import Derived.Test.YtbjdhipkdcfmlaaWQPut
import Derived.Test.YtbjdhipkdcfmlaaWApart
import Derived.Test.YtbjdhipkdcfmlaaWArr
import Derived.Test.YtbjdhipkdcfmlaaWZeros
import Derived.Test.YtbjdhipkdcfmlaaWFoot
import Derived.Test.YtbjdhipkdcfmlaaWKept
import Derived.Test.YtbjdhipkdcfmlaaWShare
import Derived.Test.YtbjdhipkdcfmlaaWN
import Derived.Test.YtbjdhipkdcfmlaaWFootNe
import Derived.Test.YtbjdhipkdcfmlaaWAt
import Derived.Test.YtbjdhipkdcfmlaaWEqStruct
import Derived.Test.YtbjdhipkdcfmlaaWRepsOne
import Derived.Test.YtbjdhipkdcfmlaaWInv
import Derived.Test.YtbjdhipkdcfmlaaWInvWords
import Derived.Test.YtbjdhipkdcfmlaaWGuard
import Derived.Test.YtbjdhipkdcfmlaaWNEv
import Derived.Test.YtbjdhipkdcfmlaaWMore
namespace Go.Proofs.Ytbjdhipkdcfmlaa.QFnExactPairOfSteps
open Go.RowKit Go.Proofs.YtbjdhipkdcfmlaaW.PrintWords Go.Proofs.YtbjdhipkdcfmlaaW.PrintLast Go.Proofs.YtbjdhipkdcfmlaaW.PrintMore
attribute [local go_sem] max2_int min2_int max_two min_two max_three min_three max_four min_four   -- for this text's walks alone
set_option linter.unusedVariables false
set_option linter.unusedSimpArgs false



def errW : Option Int → Value
  | none => .nilIface
  | some c => .iface 0 (.int .i64 c)
theorem errW_none : errW none = .nilIface := rfl
theorem errW_some (c : Int) : errW (some c) = .iface 0 (.int .i64 c) := rfl

theorem info3 : (Try.prog.info? 3).map (fun i => (i.zero, i.size, i.bytes)) = some (some (.int .i64 0), 1, 8) := by kernel_rfl
theorem info5 : (Try.prog.info? 5).map (fun i => (i.zero, i.size, i.bytes)) = some (some (.int .u8 0), 1, 1) := by kernel_rfl
-- the values' own types

end Go.Proofs.Ytbjdhipkdcfmlaa.QFnExactPairOfSteps
