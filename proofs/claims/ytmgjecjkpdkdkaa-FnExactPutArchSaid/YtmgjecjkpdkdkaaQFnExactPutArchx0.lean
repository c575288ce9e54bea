-- Written by wip/myprint.py (a program of mine round the kit's printer). Lean checks it.
import Derived.Test.YtmgjecjkpdkdkaaProg
import Derived.Below
import Derived.Deep.Draws
import Derived.Deep.AppendLies
import Derived.Maps.AppendAt
import Derived.OwnWalk
import Derived.Laws.BytesArg
import Derived.Laws.MakeOwn
import Derived.Laws.OwnMore
import Derived.Deep.OwnRows
import Derived.Tactics
import Derived.Lib.ConvBytes
import Derived.Laws.Slices
import Derived.WalkKit
import Derived.KernelRfl
import Derived.RowKit3
import Derived.Deep.LoopGhost
import Derived.Deep.QuietTactic
import Derived.BigQuiet
import Derived.WideLaws
import Derived.Deep.DeepCutAuto
import Derived.Deep.CutBlock
import Derived.Deep.RegionHeld3
import Derived.Laws.Rows
import Derived.Lib.AppendStr
import Derived.ArgAppend
import Derived.Laws.IdiomCopy
import Derived.OrdersHeld
import Derived.Laws.BitsLemmas
import Derived.RowKit
import Derived.Lib.SliceRun
import Derived.Laws.CopyOwn
import Derived.Deep.RegionLaw
import Derived.Test.YtmgjecjkpdkdkaaWWords
import Derived.Test.YtmgjecjkpdkdkaaWLast
import Derived.Test.YtmgjecjkpdkdkaaWTab
import Derived.Test.YtmgjecjkpdkdkaaWFour
import Derived.Test.YtmgjecjkpdkdkaaWQPut
import Derived.Test.YtmgjecjkpdkdkaaWApart
import Derived.Test.YtmgjecjkpdkdkaaWArr
import Derived.Test.YtmgjecjkpdkdkaaWZeros
import Derived.Test.YtmgjecjkpdkdkaaWFoot
import Derived.Test.YtmgjecjkpdkdkaaWKept
import Derived.Test.YtmgjecjkpdkdkaaWShare
import Derived.Test.YtmgjecjkpdkdkaaWN
import Derived.Test.YtmgjecjkpdkdkaaWFootNe
import Derived.Test.YtmgjecjkpdkdkaaWAt
import Derived.Test.YtmgjecjkpdkdkaaWEqStruct
import Derived.Test.YtmgjecjkpdkdkaaWRepsOne
import Derived.Test.YtmgjecjkpdkdkaaWInv
import Derived.Test.YtmgjecjkpdkdkaaWInvWords
import Derived.Test.YtmgjecjkpdkdkaaWGuard
import Derived.Test.YtmgjecjkpdkdkaaWNEv
import Derived.Test.YtmgjecjkpdkdkaaWMore
namespace Go.Proofs.Ytmgjecjkpdkdkaa.QFnExactPutArch
open Go.RowKit Go.Proofs.YtmgjecjkpdkdkaaW.PrintWords Go.Proofs.YtmgjecjkpdkdkaaW.PrintLast Go.Proofs.YtmgjecjkpdkdkaaW.PrintMore
attribute [local go_sem] max2_int min2_int max_two min_two max_three min_three max_four min_four   -- for this text's walks alone
set_option linter.unusedVariables false
set_option linter.unusedSimpArgs false



def errW : Option Int → Value
  | none => .nilIface
  | some c => .iface 0 (.int .i64 c)
theorem errW_none : errW none = .nilIface := rfl
theorem errW_some (c : Int) : errW (some c) = .iface 0 (.int .i64 c) := rfl

theorem info3 : (Try.prog.info? 3).map (fun i => (i.zero, i.size, i.bytes)) = some (some (.int .i64 0), 1, 8) := by kernel_rfl
-- the values' own types

end Go.Proofs.Ytmgjecjkpdkdkaa.QFnExactPutArch
