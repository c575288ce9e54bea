-- Written by wip/myprint.py (a program of mine round the kit's printer). Lean checks it.
import Derived.Test.YtfencncopkeobaaProg
import Derived.Below
import Derived.Deep.Draws
import Derived.Deep.AppendLies
import Derived.Maps.AppendAt
import Derived.OwnWalk
import Derived.Laws.BytesArg
import Derived.Laws.MakeOwn
import Derived.Laws.OwnMore
import Derived.Deep.OwnRows
import Derived.Tactics
import Derived.Lib.ConvBytes
import Derived.Laws.Slices
import Derived.WalkKit
import Derived.KernelRfl
import Derived.RowKit3
import Derived.Deep.LoopGhost
import Derived.Deep.QuietTactic
import Derived.BigQuiet
import Derived.WideLaws
import Derived.Deep.DeepCutAuto
import Derived.Deep.CutBlock
import Derived.Deep.RegionHeld3
import Derived.Laws.Rows
import Derived.Lib.AppendStr
import Derived.ArgAppend
import Derived.Laws.IdiomCopy
import Derived.OrdersHeld
import Derived.Laws.BitsLemmas
import Derived.RowKit
import Derived.Lib.SliceRun
import Derived.Laws.CopyOwn
import Derived.Deep.RegionLaw
import Derived.Lib.Strings
import Derived.Lib.Slices
import Derived.Lib.Walk
import Derived.Lib.Bytealg
import Derived.Lib.SliceRun
import Derived.Maps.OwnSet
import Derived.Maps.OwnOps
import Derived.Maps.Own
import Derived.Maps.Views
import Derived.Maps.RangeWalk
import Derived.WalkArith
import Derived.Test.YtfencncopkeobaaWWords
import Derived.Test.YtfencncopkeobaaWLast
import Derived.Test.YtfencncopkeobaaWTab
import Derived.Test.YtfencncopkeobaaWFour
import Derived.Test.YtfencncopkeobaaWQPut
import Derived.Test.YtfencncopkeobaaWApart
import Derived.Test.YtfencncopkeobaaWArr
import Derived.Test.YtfencncopkeobaaWZeros
import Derived.Test.YtfencncopkeobaaWFoot
import Derived.Test.YtfencncopkeobaaWKept
import Derived.Test.YtfencncopkeobaaWShare
import Derived.Test.YtfencncopkeobaaWN
import Derived.Test.YtfencncopkeobaaWFootNe
import Derived.Test.YtfencncopkeobaaWAt
import Derived.Test.YtfencncopkeobaaWEqStruct
import Derived.Test.YtfencncopkeobaaWRepsOne
import Derived.Test.YtfencncopkeobaaWInv
import Derived.Test.YtfencncopkeobaaWInvWords
import Derived.Test.YtfencncopkeobaaWGuard
import Derived.Test.YtfencncopkeobaaWNEv
import Derived.Test.YtfencncopkeobaaWMore
namespace Go.Proofs.Ytfencncopkeobaa.QFnPairsMoved
open Go.RowKit Go.Proofs.YtfencncopkeobaaW.PrintWords Go.Proofs.YtfencncopkeobaaW.PrintLast Go.Proofs.YtfencncopkeobaaW.PrintMore
attribute [local go_sem] max2_int min2_int max_two min_two max_three min_three max_four min_four   -- for this text's walks alone
set_option linter.unusedVariables false
set_option linter.unusedSimpArgs false



def errW : Option Int → Value
  | none => .nilIface
  | some c => .iface 0 (.int .i64 c)
theorem errW_none : errW none = .nilIface := rfl
theorem errW_some (c : Int) : errW (some c) = .iface 0 (.int .i64 c) := rfl

theorem info3 : (Try.prog.info? 3).map (fun i => (i.zero, i.size, i.bytes)) = some (some (.int .i64 0), 1, 8) := by kernel_rfl
theorem info5 : (Try.prog.info? 5).map (fun i => (i.zero, i.size, i.bytes)) = some (some (.int .u8 0), 1, 1) := by kernel_rfl
theorem info9 : (Try.prog.info? 9).map (fun i => (i.zero, i.size, i.bytes)) = some (some (.string ⟨#[]⟩), 1, 16) := by kernel_rfl
-- the values' own types

theorem bA : ∀ {w W : World}, Below w.heap.size w W → ∀ (o : Obj), Below w.heap.size w (W.alloc o) := @below_alloc
theorem bN : ∀ {B : Nat} {w W : World}, Below B w W → ∀ (n : Nat), Below B w (W.drewN n) := @pw_below_drewN
theorem bD : ∀ {base : Nat} {w W : World}, Below base w W → Below base w W.drew := @below_drew1
theorem rA : ∀ {α : Type} {d : Kd α} {e : Nat} {w : World} {base : Nat} {ok : Nat → Prop} {v : Value} {xs : List α}, d.R e w base ok v xs → ∀ (o : Obj), d.R e (w.alloc o) base ok v xs := @Kd.R_alloc
theorem rN : ∀ {α : Type} {d : Kd α} {e : Nat} {w : World} {base : Nat} {ok : Nat → Prop} {v : Value} {xs : List α}, d.R e w base ok v xs → ∀ (m : Nat), d.R e (w.drewN m) base ok v xs := @Kd.R_drewN
theorem rD : ∀ {α : Type} {d : Kd α} {e : Nat} {w : World} {base : Nat} {ok : Nat → Prop} {v : Value} {xs : List α}, d.R e w base ok v xs → d.R e w.drew base ok v xs := @Kd.R_drew
theorem kS : ∀ {w w1 : World} {g : Nat} {row : Option Nat}, KeepBut w w1 g row → ∀ (j : Nat) (u : Value), KeepBut w (w1.setCell { block := g, off := j } u) g row := @KeepBut.set_
theorem kN : ∀ {w W : World} {g : Nat} {row : Option Nat}, KeepBut w W g row → ∀ (m : Nat), KeepBut w (W.drewN m) g row := @keep_drewN
theorem kD : ∀ {w W : World} {g : Nat} {row : Option Nat}, KeepBut w W g row → KeepBut w W.drew g row := @keep_drew
theorem kA : ∀ {w W : World} {g : Nat}, KeepBut w W g none → ∀ (o : Obj), KeepBut w (W.alloc o) g none := @keep_alloc

theorem kB {w : World} {g : Nat} {o : Obj} (h : w.heap[g]? = some o) (n : Nat) : (w.drewN n).heap[g]? = some o := blk_drewN h n
theorem kC {w : World} {g : Nat} {o : Obj} (h : w.heap[g]? = some o) : w.drew.heap[g]? = some o := blk_drew h
theorem kE {w : World} {g : Nat} {o : Obj} (h : w.heap[g]? = some o) (p : Obj) : (w.alloc p).heap[g]? = some o := blk_alloc h p
theorem bS {w W : World} {g j : Nat} {v : Value} (h : Below w.heap.size w W) (hg : w.heap.size ≤ g) : Below w.heap.size w (W.setCell ⟨g, j, none⟩ v) := below_set h hg
theorem cA {α : Type} {d : Kd α} {xs : List α} {w : World} {A : Option Addr} {n : Nat} (h : d.C w A n xs) (o : Obj) : d.C (w.alloc o) A n xs := Kd.C_alloc h o
theorem cN {α : Type} {d : Kd α} {xs : List α} {w : World} {A : Option Addr} {n : Nat} (h : d.C w A n xs) (m : Nat) : d.C (w.drewN m) A n xs := Kd.C_drewN h m
theorem cD {α : Type} {d : Kd α} {xs : List α} {w : World} {A : Option Addr} {n : Nat} (h : d.C w A n xs) : d.C w.drew A n xs := Kd.C_drew h
theorem am {p : Prop} (h : p) : Aside0 p := ⟨h⟩
theorem sI {α : Type} (l : List α) (i : Nat) (a : α) : l.toArray.setIfInBounds i a = (l.set i a).toArray := List.setIfInBounds_toArray l i a
theorem s0_ {α : Type} (a b : α) (l : List α) : (a :: l).set 0 b = b :: l := rfl
theorem s1_ {α : Type} (a b : α) (l : List α) (i : Nat) : (a :: l).set (i + 1) b = a :: l.set i b := rfl
theorem ofd {p : Prop} [Decidable p] (h : decide p = true) : p := of_decide_eq_true h
theorem mT {α β : Type} (f : α → β) (l : List α) : l.toArray.map f = (l.map f).toArray := List.map_toArray
theorem mC {α β : Type} (f : α → β) (a : α) (l : List α) : (a :: l).map f = f a :: l.map f := rfl
theorem mZ {α β : Type} (f : α → β) : ([] : List α).map f = [] := rfl
end Go.Proofs.Ytfencncopkeobaa.QFnPairsMoved
