-- Written by wip/myprint.py (a program of mine round the kit's printer). Lean checks it.
import Derived.Test.YtlbaldejaapbiaaProg
import Derived.Below
import Derived.Deep.Draws
import Derived.Deep.AppendLies
import Derived.Maps.AppendAt
import Derived.OwnWalk
import Derived.Laws.BytesArg
import Derived.Laws.MakeOwn
import Derived.Laws.OwnMore
import Derived.Deep.OwnRows
import Derived.Tactics
import Derived.Lib.ConvBytes
import Derived.Laws.Slices
import Derived.WalkKit
import Derived.KernelRfl
import Derived.RowKit3
import Derived.Deep.LoopGhost
import Derived.Deep.QuietTactic
import Derived.BigQuiet
import Derived.WideLaws
import Derived.Deep.DeepCutAuto
import Derived.Deep.CutBlock
import Derived.Deep.RegionHeld3
import Derived.Laws.Rows
import Derived.Lib.AppendStr
import Derived.ArgAppend
import Derived.Laws.IdiomCopy
import Derived.OrdersHeld
import Derived.Laws.BitsLemmas
import Derived.RowKit
import Derived.Lib.SliceRun
import Derived.Laws.CopyOwn
import Derived.Deep.RegionLaw
import Derived.Lib.SliceRun
import Derived.Maps.OwnSet
import Derived.Maps.OwnOps
import Derived.Maps.Own
import Derived.Maps.Views
import Derived.Maps.RangeWalk
import Derived.WalkArith
import Derived.Test.YtlbaldejaapbiaaWWords
import Derived.Test.YtlbaldejaapbiaaWLast
import Derived.Test.YtlbaldejaapbiaaWTab
import Derived.Test.YtlbaldejaapbiaaWFour
import Derived.Test.YtlbaldejaapbiaaWQPut
import Derived.Test.YtlbaldejaapbiaaWApart
import Derived.Test.YtlbaldejaapbiaaWArr
import Derived.Test.YtlbaldejaapbiaaWZeros
import Derived.Test.YtlbaldejaapbiaaWFoot
import Derived.Test.YtlbaldejaapbiaaWKept
import Derived.Test.YtlbaldejaapbiaaWShare
import Derived.Test.YtlbaldejaapbiaaWN
import Derived.Test.YtlbaldejaapbiaaWFootNe
import Derived.Test.YtlbaldejaapbiaaWAt
import Derived.Test.YtlbaldejaapbiaaWEqStruct
import Derived.Test.YtlbaldejaapbiaaWRepsOne
import Derived.Test.YtlbaldejaapbiaaWInv
import Derived.Test.YtlbaldejaapbiaaWInvWords
import Derived.Test.YtlbaldejaapbiaaWGuard
import Derived.Test.YtlbaldejaapbiaaWNEv
import Derived.Test.YtlbaldejaapbiaaWMore
namespace Go.Proofs.Ytlbaldejaapbiaa.QFnExactStepState
open Go.RowKit Go.Proofs.YtlbaldejaapbiaaW.PrintWords Go.Proofs.YtlbaldejaapbiaaW.PrintLast Go.Proofs.YtlbaldejaapbiaaW.PrintMore
attribute [local go_sem] max2_int min2_int max_two min_two max_three min_three max_four min_four   -- for this text's walks alone
set_option linter.unusedVariables false
set_option linter.unusedSimpArgs false



def errW : Option Int → Value
  | none => .nilIface
  | some c => .iface 0 (.int .i64 c)
theorem errW_none : errW none = .nilIface := rfl
theorem errW_some (c : Int) : errW (some c) = .iface 0 (.int .i64 c) := rfl

theorem info3 : (Try.prog.info? 3).map (fun i => (i.zero, i.size, i.bytes)) = some (some (.int .i64 0), 1, 8) := by kernel_rfl
-- the values' own types

theorem bA : ∀ {w W : World}, Below w.heap.size w W → ∀ (o : Obj), Below w.heap.size w (W.alloc o) := @below_alloc
theorem bN : ∀ {B : Nat} {w W : World}, Below B w W → ∀ (n : Nat), Below B w (W.drewN n) := @pw_below_drewN
theorem bD : ∀ {base : Nat} {w W : World}, Below base w W → Below base w W.drew := @below_drew1
theorem rA : ∀ {α : Type} {d : Kd α} {e : Nat} {w : World} {base : Nat} {ok : Nat → Prop} {v : Value} {xs : List α}, d.R e w base ok v xs → ∀ (o : Obj), d.R e (w.alloc o) base ok v xs := @Kd.R_alloc
theorem rN : ∀ {α : Type} {d : Kd α} {e : Nat} {w : World} {base : Nat} {ok : Nat → Prop} {v : Value} {xs : List α}, d.R e w base ok v xs → ∀ (m : Nat), d.R e (w.drewN m) base ok v xs := @Kd.R_drewN
theorem rD : ∀ {α : Type} {d : Kd α} {e : Nat} {w : World} {base : Nat} {ok : Nat → Prop} {v : Value} {xs : List α}, d.R e w base ok v xs → d.R e w.drew base ok v xs := @Kd.R_drew
theorem kS : ∀ {w w1 : World} {g : Nat} {row : Option Nat}, KeepBut w w1 g row → ∀ (j : Nat) (u : Value), KeepBut w (w1.setCell { block := g, off := j } u) g row := @KeepBut.set_
theorem kN : ∀ {w W : World} {g : Nat} {row : Option Nat}, KeepBut w W g row → ∀ (m : Nat), KeepBut w (W.drewN m) g row := @keep_drewN
theorem kD : ∀ {w W : World} {g : Nat} {row : Option Nat}, KeepBut w W g row → KeepBut w W.drew g row := @keep_drew
theorem kA : ∀ {w W : World} {g : Nat}, KeepBut w W g none → ∀ (o : Obj), KeepBut w (W.alloc o) g none := @keep_alloc

end Go.Proofs.Ytlbaldejaapbiaa.QFnExactStepState
