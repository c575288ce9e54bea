-- Written by wip/myprint.py (a program of mine round the kit's printer). Lean checks it.
import Derived.Test.YtakdhnhncmkigaaProg
import Derived.Below
import Derived.Deep.Draws
import Derived.Deep.AppendLies
import Derived.Maps.AppendAt
import Derived.OwnWalk
import Derived.Laws.BytesArg
import Derived.Laws.MakeOwn
import Derived.Laws.OwnMore
import Derived.Deep.OwnRows
import Derived.Tactics
import Derived.Lib.ConvBytes
import Derived.Laws.Slices
import Derived.WalkKit
import Derived.KernelRfl
import Derived.RowKit3
import Derived.Deep.LoopGhost
import Derived.Deep.QuietTactic
import Derived.BigQuiet
import Derived.WideLaws
import Derived.Deep.DeepCutAuto
import Derived.Deep.CutBlock
import Derived.Deep.RegionHeld3
import Derived.Laws.Rows
import Derived.Lib.AppendStr
import Derived.ArgAppend
import Derived.Laws.IdiomCopy
import Derived.OrdersHeld
import Derived.Laws.BitsLemmas
import Derived.RowKit
import Derived.Lib.SliceRun
import Derived.Laws.CopyOwn
import Derived.Deep.RegionLaw
import Derived.Lib.SliceRun
import Derived.Test.YtakdhnhncmkigaaWWords
import Derived.Test.YtakdhnhncmkigaaWLast
import Derived.Test.YtakdhnhncmkigaaWTab
import Derived.Test.YtakdhnhncmkigaaWFour
import Derived.Test.YtakdhnhncmkigaaWQPut
import Derived.Test.YtakdhnhncmkigaaWApart
import Derived.Test.YtakdhnhncmkigaaWArr
import Derived.Test.YtakdhnhncmkigaaWZeros
import Derived.Test.YtakdhnhncmkigaaWFoot
import Derived.Test.YtakdhnhncmkigaaWKept
import Derived.Test.YtakdhnhncmkigaaWShare
import Derived.Test.YtakdhnhncmkigaaWN
import Derived.Test.YtakdhnhncmkigaaWFootNe
import Derived.Test.YtakdhnhncmkigaaWAt
import Derived.Test.YtakdhnhncmkigaaWEqStruct
import Derived.Test.YtakdhnhncmkigaaWRepsOne
import Derived.Test.YtakdhnhncmkigaaWInv
import Derived.Test.YtakdhnhncmkigaaWInvWords
import Derived.Test.YtakdhnhncmkigaaWGuard
import Derived.Test.YtakdhnhncmkigaaWNEv
import Derived.Test.YtakdhnhncmkigaaWMore
namespace Go.Proofs.Ytakdhnhncmkigaa.QFnExactJoinMeanders
open Go.RowKit Go.Proofs.YtakdhnhncmkigaaW.PrintWords Go.Proofs.YtakdhnhncmkigaaW.PrintLast Go.Proofs.YtakdhnhncmkigaaW.PrintMore
attribute [local go_sem] max2_int min2_int max_two min_two max_three min_three max_four min_four   -- for this text's walks alone
set_option linter.unusedVariables false
set_option linter.unusedSimpArgs false



def errW : Option Int → Value
  | none => .nilIface
  | some c => .iface 0 (.int .i64 c)
theorem errW_none : errW none = .nilIface := rfl
theorem errW_some (c : Int) : errW (some c) = .iface 0 (.int .i64 c) := rfl

theorem info3 : (Try.prog.info? 3).map (fun i => (i.zero, i.size, i.bytes)) = some (some (.int .i64 0), 1, 8) := by kernel_rfl
-- the values' own types

end Go.Proofs.Ytakdhnhncmkigaa.QFnExactJoinMeanders
