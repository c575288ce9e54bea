-- Written by wip/myprint.py (a program of mine round the kit's printer). Lean checks it.
import Derived.Test.YtmiliifbkgaalaaRows
import Derived.Test.YtmiliifbkgaalaaQFnExactStateBehindx12
import Derived.Test.YtmiliifbkgaalaaPureFnExactStateBehind
import Derived.Test.YtmiliifbkgaalaaMyRow
import Derived.WalkKit
import Derived.ProofKit
import Derived.OpenShut
import Derived.ShutString
import Derived.ChangeOld
import Derived.Below
import Derived.SizedLaws
import Derived.Test.YtmiliifbkgaalaaWSized
namespace Go.Proofs.Ytmiliifbkgaalaa.fnExactStateBehind
open Go.ChangeShapes Go.WideShapes Go.ChangeAt Go.RowKit
open Go.ChangeMaps (open_string shut_string)
set_option linter.unusedVariables false
theorem own : ownKnob Try.prog.godebug = none := by kernel_rfl
theorem laidOut : laidOutB Try.prog = true := by kernel_rfl
set_option maxHeartbeats 2000000 in
set_option maxRecDepth 100000 in
theorem lifted (os : Os) (started : os.Started) (H : Type) (enc : TypeId × Value → H) :
    ReturnsInHanded {} Try.checked os 3 .any (Rows.fnExactStateBehindSpec.pre6 enc Try.prog Try.f3 Rows.fnExactStateBehindRow.domain false) (Rows.fnExactStateBehindSpec.post enc Try.prog Try.f3 false true false false) := by
  refine returnsInHanded_of_change_sized (C := Try.checked) own started (by kernel_rfl) Try.func3
    (ChangeSpec.witness6 (enc := enc) (C := Try.checked) false ⟨#[], #[.agg #[.slice none 0 0, .slice none 0 0], .int .i64 0], []⟩ 8 (by kernel_rfl) (by kernel_rfl) (by kernel_rfl) (by kernel_rfl)) ?_
  intro W base args ds gs before hval0 hW hcnd hsz0 _
  have hsz : (DataW.weightsEach Try.prog (Try.f3.params.toList ++ Rows.fnExactStateBehindSpec.plain.varTypes Try.prog) (ds ++ gs)).all (· ≤ reachBytes) = true := hsz0
  have hval : ∀ (j : Nat) t v, Try.f3.params[j]? = some t → args[j]? = some v → Value.okWide Try.prog W .any base t v := hval0
  have hW' := hW
  obtain ⟨p, q, hA0, hV, rfl, hfz, hnd⟩ := hW
  have hA : DataW.TrodAll enc Try.prog W 0 (fun _ => true) true Try.f3.params.toList args.toList ds p := hA0
  rw [Try.params3] at hA hval hsz
  obtain ⟨v0, vs0, d0, ds0, p0, q0, hargs, rfl, rfl, h0, r0⟩ := trodAll_cons hA
  obtain ⟨v1, vs1, d1, ds1, p1, q1, rfl, rfl, rfl, h1, r1⟩ := trodAll_cons r0
  obtain ⟨rfl, rfl, rfl⟩ := trodAll_nil r1
  obtain rfl : args = #[v0, v1] := by cases args; simp_all
  obtain ⟨rfl, rfl⟩ := trodVars_none hV
  obtain ⟨cs0, rfl, hs0⟩ := okWide_struct Try.underlying24 (hval 0 24 v0 rfl rfl)
  have k0 := h0
  have lt0 : ∀ x ∈ p0, x.block < W.heap.size := by obtain ⟨m, hm⟩ := k0; exact DataW.trod_lt m _ _ _ hm
  obtain ⟨x0_0, x0_1, rfl⟩ := MyRow.my_two (hs0.trans (show Try.prog.cellsOf 24 = 2 by kernel_rfl))
  obtain ⟨fu0, hf0⟩ := h0
  obtain ⟨y_0_0, y_0_1, fn0, e0, g0_0, g0_1⟩ := MyRow.my_struct2 Try.underlying24 hf0
  have sz0 := MyRow.my_sized hsz (j := 0) (t := 24) (parts := [y_0_0.1, y_0_1.1]) rfl (by simp only [] at e0; rw [e0]; rfl) Try.underlying24
  have g'0_0 : DataW.trod enc Try.prog W 0 (fun _ => true) true fn0 22 [x0_0] = some y_0_0 := by
    have hc : Try.prog.cellsOf 22 = 1 := by kernel_rfl
    have g := g0_0
    simp only [hc] at g
    exact g
  obtain ⟨a0_0, len0_0, cap0_0, z0_0, rfl, w0_0, y0_0⟩ := MyRow.my_ints Try.underlying22 Try.underlying3 (by kernel_rfl) (show Try.prog.bytesOf 3 = 8 by kernel_rfl) g'0_0 sz0 (j := 0) rfl rfl
  have g'0_1 : DataW.trod enc Try.prog W 0 (fun _ => true) true fn0 22 [x0_1] = some y_0_1 := by
    have hc : Try.prog.cellsOf 22 = 1 := by kernel_rfl
    have g := g0_1
    simp only [hc] at g
    exact g
  obtain ⟨a0_1, len0_1, cap0_1, z0_1, rfl, w0_1, y0_1⟩ := MyRow.my_ints Try.underlying22 Try.underlying3 (by kernel_rfl) (show Try.prog.bytesOf 3 = 8 by kernel_rfl) g'0_1 sz0 (j := 1) rfl rfl
  obtain ⟨a1, rfl, rfl, rfl, w1⟩ := open_int Try.underlying3 (hval 1 3 v1 rfl rfl) h1
  clear hA0 hval0 hsz0 hsz
  refine (QFnExactStateBehind.laws_FnExactStateBehind.walk Pure.FnExactStateBehind a0_0 len0_0 cap0_0 z0_0 a0_1 len0_1 cap0_1 z0_1 a1 W w0_0 y0_0 w0_1 y0_1 w1).mono fun e W' ⟨he, bel⟩ => ?_
  subst he
  exact ⟨_, rfl, _, _, _, [], _, [], hW', trodAll_mk1 (shut_bool Try.underlying4 _), (trodAll_cons_mk (Below.trod laidOut (by kernel_rfl) (of_decide_eq_true (by kernel_rfl)) k0 bel lt0) (trodAll_cons_mk (shut_int Try.underlying3 w1) trodAll_mk0)), rfl, bel.frame _, fun h => by cases h⟩
theorem over : Rows.fnExactStateBehindRow.holds Try.pinned (OpenSpec.ofChange Rows.fnExactStateBehindSpec) :=
  OpenClaim.holds_of_wide 3 Try.f3 rfl rfl rfl rfl rfl rfl rfl ⟨rfl, rfl, rfl, rfl, rfl⟩ rfl rfl rfl rfl rfl (by kernel_rfl) Try.func3 (by kernel_rfl)
    (of_decide_eq_true (by kernel_rfl)) (by unfold Func.isWrapper; first | (rw [if_pos (by decide +kernel)]; kernel_rfl) | (rw [if_neg (by decide +kernel)]; exact ⟨rfl, rfl⟩))
    (fun os started H enc _ => lifted os started H enc)
theorem proved : Rows.FnExactStateBehindSaid := over
end Go.Proofs.Ytmiliifbkgaalaa.fnExactStateBehind
namespace Go.Proofs.Ytmiliifbkgaalaa
/-- The row, under a short name, for the claim. -/
theorem fnExactStateBehind_holds : Rows.FnExactStateBehindSaid := fnExactStateBehind.proved
end Go.Proofs.Ytmiliifbkgaalaa
