-- Written by wip/myprint.py (a program of mine round the kit's printer). Lean checks it.
import Derived.Test.YtonobgbpgeielaaQFnArchesPutx0
import Derived.Test.YtonobgbpgeielaaQFnArchesPutx1
import Derived.Test.YtonobgbpgeielaaQFnArchesPutx2
import Derived.Test.YtonobgbpgeielaaQFnArchesPutx3
import Derived.Test.YtonobgbpgeielaaQFnArchesPutx5
import Derived.Test.YtonobgbpgeielaaQFnArchesPutx6
import Derived.Test.YtonobgbpgeielaaQFnArchesPutx7
namespace Go.Proofs.Ytonobgbpgeielaa.QFnArchesPut
open Go.RowKit Go.Proofs.YtonobgbpgeielaaW.PrintWords Go.Proofs.YtonobgbpgeielaaW.PrintLast Go.Proofs.YtonobgbpgeielaaW.PrintMore
attribute [local go_sem] max2_int min2_int max_two min_two max_three min_three max_four min_four   -- for this text's walks alone
set_option linter.unusedVariables false
set_option linter.unusedSimpArgs false

theorem R2_ {d : Kd Int} {e : TypeId} {W w1 : World} {base : Nat} {ok ok1 ok2 : Nat → Prop} {u v0 v1 : Value} {xs y0 y1 : List Int} (hu : Kd.R d e W base ok u xs) (hb : Below W.heap.size W w1) (h0 : Kd.R d e w1 W.heap.size ok1 v0 y0) (h1 : Kd.R d e w1 W.heap.size ok2 v1 y1) :
    Kd.R d e w1 base (fun k => (ok k ∧ some k ≠ v0.ownBlock) ∧ some k ≠ v1.ownBlock) u xs :=
  Kd.R_mono (Kd.R_told (Kd.R_told (Kd.R_old hu hb) (Kd.R_base h0)) (Kd.R_base h1)) (fun _ h_ => h_.1)
/-! ### laws_FnArchesPut: function 3 -/
mutual
def laws_FnArchesPut.j0 : Nat → List Int → List Int → Int → List Int → Bool → Bool → Option (Bool)
  | 0, _, _, _, _, _, _ => none
  | k + 1, x1, x5, x6, x7, x8, x72 => if x72 = true then (some false) else (if x8 = true then (if 0 ≤ x6 then (if x6 < (x5.length : Int) then ((impl_PutArch.f k x7 x6 (rd x5 x6)).bind fun bt367 => (if bt367.2 = true then ((laws_sSame.f k bt367.1 x5).bind fun t371 => (if t371 = true then (laws_FnArchesPut.j1 k x1) else (some false))) else (some false))) else (none)) else (none)) else (laws_FnArchesPut.j1 k x1))
def laws_FnArchesPut.j1 : Nat → List Int → Option (Bool)
  | 0, _ => none
  | k + 1, x1 => (spec_DrawPutArch.f k x1).bind fun bt372 => ((impl_PutArch.f k bt372.1 bt372.2.1 bt372.2.2).bind fun bt377 => ((spec_PutArch.f k bt372.1 bt372.2.1 bt372.2.2).bind fun bt381 => (if (bt377.2 != bt381.2) = true then (laws_FnArchesPut.j2 k x1 bt372.1 bt372.2.1 bt372.2.2 bt377.1 bt377.2 true) else ((laws_sSame.f k bt377.1 bt381.1).bind fun t385 => (laws_FnArchesPut.j2 k x1 bt372.1 bt372.2.1 bt372.2.2 bt377.1 bt377.2 (!t385))))))
def laws_FnArchesPut.j2 : Nat → List Int → List Int → Int → Int → List Int → Bool → Bool → Option (Bool)
  | 0, _, _, _, _, _, _, _ => none
  | k + 1, x1, x13, x14, x15, x16, x17, x120 => if x120 = true then (some false) else (if x17 = true then ((impl_DropArch.f k x16 x14).bind fun bt386 => (if bt386.2 = true then ((laws_sSame.f k bt386.1 x13).bind fun t390 => (if t390 = true then (if 0 ≤ x14 then (if x14 < (x16.length : Int) then (if (rd x16 x14) = x15 then (laws_FnArchesPut.j3 k x1) else (some false)) else (none)) else (none)) else (some false))) else (some false))) else (laws_FnArchesPut.j3 k x1))
def laws_FnArchesPut.j3 : Nat → List Int → Option (Bool)
  | 0, _ => none
  | k + 1, x1 => (spec_DrawDepthsOf.f k x1).bind fun t392 => ((impl_DepthsOf.f k t392).bind fun bt395 => ((spec_DepthsOf.f k t392).bind fun bt399 => ((impl_OuterArches.f k t392).bind fun bt403 => ((spec_OuterArches.f k t392).bind fun bt407 => ((impl_SmallArches.f k t392).bind fun bt411 => ((spec_SmallArches.f k t392).bind fun bt415 => (if (bt395.2 != bt399.2) = true then (laws_FnArchesPut.j4 k t392 bt395.1 bt395.2 bt403.1 bt411.1 true) else ((laws_sSame.f k bt395.1 bt399.1).bind fun t419 => (if t419 = true then (if (bt403.2 != bt407.2) = true then (laws_FnArchesPut.j4 k t392 bt395.1 bt395.2 bt403.1 bt411.1 true) else ((laws_sSame.f k bt403.1 bt407.1).bind fun t420 => (if t420 = true then (if (bt411.2 != bt415.2) = true then (laws_FnArchesPut.j4 k t392 bt395.1 bt395.2 bt403.1 bt411.1 true) else ((laws_sSame.f k bt411.1 bt415.1).bind fun t421 => (if t421 = true then ((impl_IsSystem.f k t392).bind fun t422 => (if (bt395.2 != t422) = true then (laws_FnArchesPut.j4 k t392 bt395.1 bt395.2 bt403.1 bt411.1 true) else (if (bt403.2 != bt395.2) = true then (laws_FnArchesPut.j4 k t392 bt395.1 bt395.2 bt403.1 bt411.1 true) else (laws_FnArchesPut.j4 k t392 bt395.1 bt395.2 bt403.1 bt411.1 (bt411.2 != bt395.2))))) else (laws_FnArchesPut.j4 k t392 bt395.1 bt395.2 bt403.1 bt411.1 true)))) else (laws_FnArchesPut.j4 k t392 bt395.1 bt395.2 bt403.1 bt411.1 true)))) else (laws_FnArchesPut.j4 k t392 bt395.1 bt395.2 bt403.1 bt411.1 true))))))))))
def laws_FnArchesPut.j4 : Nat → List Int → List Int → Bool → List Int → List Int → Bool → Option (Bool)
  | 0, _, _, _, _, _, _ => none
  | k + 1, x22, x23, x24, x27, x31, x222 => if x222 = true then (some false) else (if x24 = true then (laws_FnArchesPut.l0 k x22 x23 x27 x31 0 0 x22 (x22.length : Int) 0) else (some true))
def laws_FnArchesPut.l0 : Nat → List Int → List Int → List Int → List Int → Int → Int → List Int → Int → Int → Option (Bool)
  | 0, _, _, _, _, _, _, _, _, _ => none
  | k + 1, x22, x23, x27, x31, x35, x36, x225, x226, x227 => if x227 < x226 then (if 0 ≤ x227 then (if x227 < (x225.length : Int) then (if (rd x225 x227) < x227 then (laws_FnArchesPut.l0 k x22 x23 x27 x31 x35 x36 x225 x226 (wrap64 (x227 + 1))) else (laws_FnArchesPut.l1 k x22 x23 x27 x31 x35 x36 x227 (rd x225 x227) 0 x225 x226 x227 x22 (x22.length : Int) 0)) else (none)) else (none)) else (laws_FnArchesPut.l2 k x22 x27 x31 x35 x31 (x31.length : Int) 0)
def laws_FnArchesPut.l1 : Nat → List Int → List Int → List Int → List Int → Int → Int → Int → Int → Int → List Int → Int → Int → List Int → Int → Int → Option (Bool)
  | 0, _, _, _, _, _, _, _, _, _, _, _, _, _, _, _ => none
  | k + 1, x22, x23, x27, x31, x35, x36, x37, x38, x39, x225, x226, x227, x235, x236, x237 => if x237 < x236 then (if 0 ≤ x237 then (if x237 < (x235.length : Int) then (if x237 < x37 then (if (rd x235 x237) > x38 then (laws_FnArchesPut.l1 k x22 x23 x27 x31 x35 x36 x37 x38 (wrap64 (x39 + 1)) x225 x226 x227 x235 x236 (wrap64 (x237 + 1))) else (laws_FnArchesPut.l1 k x22 x23 x27 x31 x35 x36 x37 x38 x39 x225 x226 x227 x235 x236 (wrap64 (x237 + 1)))) else (laws_FnArchesPut.l1 k x22 x23 x27 x31 x35 x36 x37 x38 x39 x225 x226 x227 x235 x236 (wrap64 (x237 + 1)))) else (none)) else (none)) else (if 0 ≤ x36 then (if x36 < (x23.length : Int) then (if (rd x23 x36) = x39 then (if x39 = 0 then (if 0 ≤ x35 then (if x35 < (x27.length : Int) then (if (rd x27 x35) = x37 then (laws_FnArchesPut.l0 k x22 x23 x27 x31 (wrap64 (x35 + 1)) (wrap64 (x36 + 1)) x225 x226 (wrap64 (x227 + 1))) else (some false)) else (none)) else (none)) else (laws_FnArchesPut.l0 k x22 x23 x27 x31 x35 (wrap64 (x36 + 1)) x225 x226 (wrap64 (x227 + 1)))) else (some false)) else (none)) else (none))
def laws_FnArchesPut.l2 : Nat → List Int → List Int → List Int → Int → List Int → Int → Int → Option (Bool)
  | 0, _, _, _, _, _, _, _ => none
  | k + 1, x22, x27, x31, x35, x272, x273, x274 => if x274 < x273 then (if 0 ≤ x274 then (if x274 < (x272.length : Int) then (if 0 ≤ (rd x272 x274) then (if (rd x272 x274) < (x22.length : Int) then (if (rd x22 (rd x272 x274)) = (wrap64 ((rd x272 x274) + 1)) then (laws_FnArchesPut.l2 k x22 x27 x31 x35 x272 x273 (wrap64 (x274 + 1))) else (some false)) else (none)) else (none)) else (none)) else (none)) else (if x35 = (x27.length : Int) then (if (x22.length : Int) = 0 then (some true) else (some (decide ((x31.length : Int) > 0)))) else (some false))
end
def laws_FnArchesPut.f (k : Nat) (l0 : List Int) (l1 : List Int) : Option (Bool) := (laws_big.f l0 l1).bind fun t352 => (if t352 = true then (some true) else ((spec_DrawDropArch.f k l0).bind fun bt353 => ((impl_DropArch.f k bt353.1 bt353.2).bind fun bt357 => ((spec_DropArch.f k bt353.1 bt353.2).bind fun bt361 => (if (bt357.2 != bt361.2) = true then (laws_FnArchesPut.j0 k l1 bt353.1 bt353.2 bt357.1 bt357.2 true) else ((laws_sSame.f k bt357.1 bt361.1).bind fun t365 => (laws_FnArchesPut.j0 k l1 bt353.1 bt353.2 bt357.1 bt357.2 (!t365))))))))
theorem laws_FnArchesPut.mono_l : ∀ k, (∀ y0 y1 y2 y3 y4 y5, LeO (laws_FnArchesPut.j0 k y0 y1 y2 y3 y4 y5) (laws_FnArchesPut.j0 (k + 1) y0 y1 y2 y3 y4 y5)) ∧ (∀ y0, LeO (laws_FnArchesPut.j1 k y0) (laws_FnArchesPut.j1 (k + 1) y0)) ∧ (∀ y0 y1 y2 y3 y4 y5 y6, LeO (laws_FnArchesPut.j2 k y0 y1 y2 y3 y4 y5 y6) (laws_FnArchesPut.j2 (k + 1) y0 y1 y2 y3 y4 y5 y6)) ∧ (∀ y0, LeO (laws_FnArchesPut.j3 k y0) (laws_FnArchesPut.j3 (k + 1) y0)) ∧ (∀ y0 y1 y2 y3 y4 y5, LeO (laws_FnArchesPut.j4 k y0 y1 y2 y3 y4 y5) (laws_FnArchesPut.j4 (k + 1) y0 y1 y2 y3 y4 y5)) ∧ (∀ y0 y1 y2 y3 y4 y5 y6 y7 y8, LeO (laws_FnArchesPut.l0 k y0 y1 y2 y3 y4 y5 y6 y7 y8) (laws_FnArchesPut.l0 (k + 1) y0 y1 y2 y3 y4 y5 y6 y7 y8)) ∧ (∀ y0 y1 y2 y3 y4 y5 y6 y7 y8 y9 y10 y11 y12 y13 y14, LeO (laws_FnArchesPut.l1 k y0 y1 y2 y3 y4 y5 y6 y7 y8 y9 y10 y11 y12 y13 y14) (laws_FnArchesPut.l1 (k + 1) y0 y1 y2 y3 y4 y5 y6 y7 y8 y9 y10 y11 y12 y13 y14)) ∧ (∀ y0 y1 y2 y3 y4 y5 y6, LeO (laws_FnArchesPut.l2 k y0 y1 y2 y3 y4 y5 y6) (laws_FnArchesPut.l2 (k + 1) y0 y1 y2 y3 y4 y5 y6))
  | 0 => ⟨fun _ _ _ _ _ _ r h => by simp [laws_FnArchesPut.j0] at h, fun _ r h => by simp [laws_FnArchesPut.j1] at h, fun _ _ _ _ _ _ _ r h => by simp [laws_FnArchesPut.j2] at h, fun _ r h => by simp [laws_FnArchesPut.j3] at h, fun _ _ _ _ _ _ r h => by simp [laws_FnArchesPut.j4] at h, fun _ _ _ _ _ _ _ _ _ r h => by simp [laws_FnArchesPut.l0] at h, fun _ _ _ _ _ _ _ _ _ _ _ _ _ _ _ r h => by simp [laws_FnArchesPut.l1] at h, fun _ _ _ _ _ _ _ r h => by simp [laws_FnArchesPut.l2] at h⟩
  | k + 1 => by
    obtain ⟨ih0, ih1, ih2, ih3, ih4, ih5, ih6, ih7⟩ := laws_FnArchesPut.mono_l k
    refine ⟨?_, ?_, ?_, ?_, ?_, ?_, ?_, ?_⟩
    · intro y0 y1 y2 y3 y4 y5
      unfold laws_FnArchesPut.j0
      repeat' first
      | (with_reducible exact ih0 _ _ _ _ _ _)
      | (with_reducible exact ih1 _)
      | (with_reducible exact ih2 _ _ _ _ _ _ _)
      | (with_reducible exact ih3 _)
      | (with_reducible exact ih4 _ _ _ _ _ _)
      | (with_reducible exact ih5 _ _ _ _ _ _ _ _ _)
      | (with_reducible exact ih6 _ _ _ _ _ _ _ _ _ _ _ _ _ _ _)
      | (with_reducible exact ih7 _ _ _ _ _ _ _)
      | (with_reducible exact impl_DepthsOf.mono _ _)
      | (with_reducible exact impl_DropArch.mono _ _ _)
      | (with_reducible exact impl_IsSystem.mono _ _)
      | (with_reducible exact impl_OuterArches.mono _ _)
      | (with_reducible exact impl_PutArch.mono _ _ _ _)
      | (with_reducible exact impl_SmallArches.mono _ _)
      | (with_reducible exact laws_sSame.mono _ _ _)
      | (with_reducible exact spec_DepthsOf.mono _ _)
      | (with_reducible exact spec_DrawDepthsOf.mono _ _)
      | (with_reducible exact spec_DrawDropArch.mono _ _)
      | (with_reducible exact spec_DrawPutArch.mono _ _)
      | (with_reducible exact spec_DropArch.mono _ _ _)
      | (with_reducible exact spec_OuterArches.mono _ _)
      | (with_reducible exact spec_PutArch.mono _ _ _ _)
      | (with_reducible exact spec_SmallArches.mono _ _)
      | (with_reducible exact LeO.refl _)
      | (with_reducible exact LeO.none _)
      | (with_reducible refine LeO.ite ?_ ?_)
      | (with_reducible refine LeO.bind ?_ (fun _ => ?_))
      | exact ih0 _ _ _ _ _ _
      | exact ih1 _
      | exact ih2 _ _ _ _ _ _ _
      | exact ih3 _
      | exact ih4 _ _ _ _ _ _
      | exact ih5 _ _ _ _ _ _ _ _ _
      | exact ih6 _ _ _ _ _ _ _ _ _ _ _ _ _ _ _
      | exact ih7 _ _ _ _ _ _ _
      | exact impl_DepthsOf.mono _ _
      | exact impl_DropArch.mono _ _ _
      | exact impl_IsSystem.mono _ _
      | exact impl_OuterArches.mono _ _
      | exact impl_PutArch.mono _ _ _ _
      | exact impl_SmallArches.mono _ _
      | exact laws_sSame.mono _ _ _
      | exact spec_DepthsOf.mono _ _
      | exact spec_DrawDepthsOf.mono _ _
      | exact spec_DrawDropArch.mono _ _
      | exact spec_DrawPutArch.mono _ _
      | exact spec_DropArch.mono _ _ _
      | exact spec_OuterArches.mono _ _
      | exact spec_PutArch.mono _ _ _ _
      | exact spec_SmallArches.mono _ _
      | exact LeO.none _
      | refine LeO.ite ?_ ?_
      | refine LeO.bind ?_ (fun _ => ?_)
    · intro y0
      unfold laws_FnArchesPut.j1
      repeat' first
      | (with_reducible exact ih0 _ _ _ _ _ _)
      | (with_reducible exact ih1 _)
      | (with_reducible exact ih2 _ _ _ _ _ _ _)
      | (with_reducible exact ih3 _)
      | (with_reducible exact ih4 _ _ _ _ _ _)
      | (with_reducible exact ih5 _ _ _ _ _ _ _ _ _)
      | (with_reducible exact ih6 _ _ _ _ _ _ _ _ _ _ _ _ _ _ _)
      | (with_reducible exact ih7 _ _ _ _ _ _ _)
      | (with_reducible exact impl_DepthsOf.mono _ _)
      | (with_reducible exact impl_DropArch.mono _ _ _)
      | (with_reducible exact impl_IsSystem.mono _ _)
      | (with_reducible exact impl_OuterArches.mono _ _)
      | (with_reducible exact impl_PutArch.mono _ _ _ _)
      | (with_reducible exact impl_SmallArches.mono _ _)
      | (with_reducible exact laws_sSame.mono _ _ _)
      | (with_reducible exact spec_DepthsOf.mono _ _)
      | (with_reducible exact spec_DrawDepthsOf.mono _ _)
      | (with_reducible exact spec_DrawDropArch.mono _ _)
      | (with_reducible exact spec_DrawPutArch.mono _ _)
      | (with_reducible exact spec_DropArch.mono _ _ _)
      | (with_reducible exact spec_OuterArches.mono _ _)
      | (with_reducible exact spec_PutArch.mono _ _ _ _)
      | (with_reducible exact spec_SmallArches.mono _ _)
      | (with_reducible exact LeO.refl _)
      | (with_reducible exact LeO.none _)
      | (with_reducible refine LeO.ite ?_ ?_)
      | (with_reducible refine LeO.bind ?_ (fun _ => ?_))
      | exact ih0 _ _ _ _ _ _
      | exact ih1 _
      | exact ih2 _ _ _ _ _ _ _
      | exact ih3 _
      | exact ih4 _ _ _ _ _ _
      | exact ih5 _ _ _ _ _ _ _ _ _
      | exact ih6 _ _ _ _ _ _ _ _ _ _ _ _ _ _ _
      | exact ih7 _ _ _ _ _ _ _
      | exact impl_DepthsOf.mono _ _
      | exact impl_DropArch.mono _ _ _
      | exact impl_IsSystem.mono _ _
      | exact impl_OuterArches.mono _ _
      | exact impl_PutArch.mono _ _ _ _
      | exact impl_SmallArches.mono _ _
      | exact laws_sSame.mono _ _ _
      | exact spec_DepthsOf.mono _ _
      | exact spec_DrawDepthsOf.mono _ _
      | exact spec_DrawDropArch.mono _ _
      | exact spec_DrawPutArch.mono _ _
      | exact spec_DropArch.mono _ _ _
      | exact spec_OuterArches.mono _ _
      | exact spec_PutArch.mono _ _ _ _
      | exact spec_SmallArches.mono _ _
      | exact LeO.none _
      | refine LeO.ite ?_ ?_
      | refine LeO.bind ?_ (fun _ => ?_)
    · intro y0 y1 y2 y3 y4 y5 y6
      unfold laws_FnArchesPut.j2
      repeat' first
      | (with_reducible exact ih0 _ _ _ _ _ _)
      | (with_reducible exact ih1 _)
      | (with_reducible exact ih2 _ _ _ _ _ _ _)
      | (with_reducible exact ih3 _)
      | (with_reducible exact ih4 _ _ _ _ _ _)
      | (with_reducible exact ih5 _ _ _ _ _ _ _ _ _)
      | (with_reducible exact ih6 _ _ _ _ _ _ _ _ _ _ _ _ _ _ _)
      | (with_reducible exact ih7 _ _ _ _ _ _ _)
      | (with_reducible exact impl_DepthsOf.mono _ _)
      | (with_reducible exact impl_DropArch.mono _ _ _)
      | (with_reducible exact impl_IsSystem.mono _ _)
      | (with_reducible exact impl_OuterArches.mono _ _)
      | (with_reducible exact impl_PutArch.mono _ _ _ _)
      | (with_reducible exact impl_SmallArches.mono _ _)
      | (with_reducible exact laws_sSame.mono _ _ _)
      | (with_reducible exact spec_DepthsOf.mono _ _)
      | (with_reducible exact spec_DrawDepthsOf.mono _ _)
      | (with_reducible exact spec_DrawDropArch.mono _ _)
      | (with_reducible exact spec_DrawPutArch.mono _ _)
      | (with_reducible exact spec_DropArch.mono _ _ _)
      | (with_reducible exact spec_OuterArches.mono _ _)
      | (with_reducible exact spec_PutArch.mono _ _ _ _)
      | (with_reducible exact spec_SmallArches.mono _ _)
      | (with_reducible exact LeO.refl _)
      | (with_reducible exact LeO.none _)
      | (with_reducible refine LeO.ite ?_ ?_)
      | (with_reducible refine LeO.bind ?_ (fun _ => ?_))
      | exact ih0 _ _ _ _ _ _
      | exact ih1 _
      | exact ih2 _ _ _ _ _ _ _
      | exact ih3 _
      | exact ih4 _ _ _ _ _ _
      | exact ih5 _ _ _ _ _ _ _ _ _
      | exact ih6 _ _ _ _ _ _ _ _ _ _ _ _ _ _ _
      | exact ih7 _ _ _ _ _ _ _
      | exact impl_DepthsOf.mono _ _
      | exact impl_DropArch.mono _ _ _
      | exact impl_IsSystem.mono _ _
      | exact impl_OuterArches.mono _ _
      | exact impl_PutArch.mono _ _ _ _
      | exact impl_SmallArches.mono _ _
      | exact laws_sSame.mono _ _ _
      | exact spec_DepthsOf.mono _ _
      | exact spec_DrawDepthsOf.mono _ _
      | exact spec_DrawDropArch.mono _ _
      | exact spec_DrawPutArch.mono _ _
      | exact spec_DropArch.mono _ _ _
      | exact spec_OuterArches.mono _ _
      | exact spec_PutArch.mono _ _ _ _
      | exact spec_SmallArches.mono _ _
      | exact LeO.none _
      | refine LeO.ite ?_ ?_
      | refine LeO.bind ?_ (fun _ => ?_)
    · intro y0
      unfold laws_FnArchesPut.j3
      repeat' first
      | (with_reducible exact ih0 _ _ _ _ _ _)
      | (with_reducible exact ih1 _)
      | (with_reducible exact ih2 _ _ _ _ _ _ _)
      | (with_reducible exact ih3 _)
      | (with_reducible exact ih4 _ _ _ _ _ _)
      | (with_reducible exact ih5 _ _ _ _ _ _ _ _ _)
      | (with_reducible exact ih6 _ _ _ _ _ _ _ _ _ _ _ _ _ _ _)
      | (with_reducible exact ih7 _ _ _ _ _ _ _)
      | (with_reducible exact impl_DepthsOf.mono _ _)
      | (with_reducible exact impl_DropArch.mono _ _ _)
      | (with_reducible exact impl_IsSystem.mono _ _)
      | (with_reducible exact impl_OuterArches.mono _ _)
      | (with_reducible exact impl_PutArch.mono _ _ _ _)
      | (with_reducible exact impl_SmallArches.mono _ _)
      | (with_reducible exact laws_sSame.mono _ _ _)
      | (with_reducible exact spec_DepthsOf.mono _ _)
      | (with_reducible exact spec_DrawDepthsOf.mono _ _)
      | (with_reducible exact spec_DrawDropArch.mono _ _)
      | (with_reducible exact spec_DrawPutArch.mono _ _)
      | (with_reducible exact spec_DropArch.mono _ _ _)
      | (with_reducible exact spec_OuterArches.mono _ _)
      | (with_reducible exact spec_PutArch.mono _ _ _ _)
      | (with_reducible exact spec_SmallArches.mono _ _)
      | (with_reducible exact LeO.refl _)
      | (with_reducible exact LeO.none _)
      | (with_reducible refine LeO.ite ?_ ?_)
      | (with_reducible refine LeO.bind ?_ (fun _ => ?_))
      | exact ih0 _ _ _ _ _ _
      | exact ih1 _
      | exact ih2 _ _ _ _ _ _ _
      | exact ih3 _
      | exact ih4 _ _ _ _ _ _
      | exact ih5 _ _ _ _ _ _ _ _ _
      | exact ih6 _ _ _ _ _ _ _ _ _ _ _ _ _ _ _
      | exact ih7 _ _ _ _ _ _ _
      | exact impl_DepthsOf.mono _ _
      | exact impl_DropArch.mono _ _ _
      | exact impl_IsSystem.mono _ _
      | exact impl_OuterArches.mono _ _
      | exact impl_PutArch.mono _ _ _ _
      | exact impl_SmallArches.mono _ _
      | exact laws_sSame.mono _ _ _
      | exact spec_DepthsOf.mono _ _
      | exact spec_DrawDepthsOf.mono _ _
      | exact spec_DrawDropArch.mono _ _
      | exact spec_DrawPutArch.mono _ _
      | exact spec_DropArch.mono _ _ _
      | exact spec_OuterArches.mono _ _
      | exact spec_PutArch.mono _ _ _ _
      | exact spec_SmallArches.mono _ _
      | exact LeO.none _
      | refine LeO.ite ?_ ?_
      | refine LeO.bind ?_ (fun _ => ?_)
    · intro y0 y1 y2 y3 y4 y5
      unfold laws_FnArchesPut.j4
      repeat' first
      | (with_reducible exact ih0 _ _ _ _ _ _)
      | (with_reducible exact ih1 _)
      | (with_reducible exact ih2 _ _ _ _ _ _ _)
      | (with_reducible exact ih3 _)
      | (with_reducible exact ih4 _ _ _ _ _ _)
      | (with_reducible exact ih5 _ _ _ _ _ _ _ _ _)
      | (with_reducible exact ih6 _ _ _ _ _ _ _ _ _ _ _ _ _ _ _)
      | (with_reducible exact ih7 _ _ _ _ _ _ _)
      | (with_reducible exact impl_DepthsOf.mono _ _)
      | (with_reducible exact impl_DropArch.mono _ _ _)
      | (with_reducible exact impl_IsSystem.mono _ _)
      | (with_reducible exact impl_OuterArches.mono _ _)
      | (with_reducible exact impl_PutArch.mono _ _ _ _)
      | (with_reducible exact impl_SmallArches.mono _ _)
      | (with_reducible exact laws_sSame.mono _ _ _)
      | (with_reducible exact spec_DepthsOf.mono _ _)
      | (with_reducible exact spec_DrawDepthsOf.mono _ _)
      | (with_reducible exact spec_DrawDropArch.mono _ _)
      | (with_reducible exact spec_DrawPutArch.mono _ _)
      | (with_reducible exact spec_DropArch.mono _ _ _)
      | (with_reducible exact spec_OuterArches.mono _ _)
      | (with_reducible exact spec_PutArch.mono _ _ _ _)
      | (with_reducible exact spec_SmallArches.mono _ _)
      | (with_reducible exact LeO.refl _)
      | (with_reducible exact LeO.none _)
      | (with_reducible refine LeO.ite ?_ ?_)
      | (with_reducible refine LeO.bind ?_ (fun _ => ?_))
      | exact ih0 _ _ _ _ _ _
      | exact ih1 _
      | exact ih2 _ _ _ _ _ _ _
      | exact ih3 _
      | exact ih4 _ _ _ _ _ _
      | exact ih5 _ _ _ _ _ _ _ _ _
      | exact ih6 _ _ _ _ _ _ _ _ _ _ _ _ _ _ _
      | exact ih7 _ _ _ _ _ _ _
      | exact impl_DepthsOf.mono _ _
      | exact impl_DropArch.mono _ _ _
      | exact impl_IsSystem.mono _ _
      | exact impl_OuterArches.mono _ _
      | exact impl_PutArch.mono _ _ _ _
      | exact impl_SmallArches.mono _ _
      | exact laws_sSame.mono _ _ _
      | exact spec_DepthsOf.mono _ _
      | exact spec_DrawDepthsOf.mono _ _
      | exact spec_DrawDropArch.mono _ _
      | exact spec_DrawPutArch.mono _ _
      | exact spec_DropArch.mono _ _ _
      | exact spec_OuterArches.mono _ _
      | exact spec_PutArch.mono _ _ _ _
      | exact spec_SmallArches.mono _ _
      | exact LeO.none _
      | refine LeO.ite ?_ ?_
      | refine LeO.bind ?_ (fun _ => ?_)
    · intro y0 y1 y2 y3 y4 y5 y6 y7 y8
      unfold laws_FnArchesPut.l0
      repeat' first
      | (with_reducible exact ih0 _ _ _ _ _ _)
      | (with_reducible exact ih1 _)
      | (with_reducible exact ih2 _ _ _ _ _ _ _)
      | (with_reducible exact ih3 _)
      | (with_reducible exact ih4 _ _ _ _ _ _)
      | (with_reducible exact ih5 _ _ _ _ _ _ _ _ _)
      | (with_reducible exact ih6 _ _ _ _ _ _ _ _ _ _ _ _ _ _ _)
      | (with_reducible exact ih7 _ _ _ _ _ _ _)
      | (with_reducible exact impl_DepthsOf.mono _ _)
      | (with_reducible exact impl_DropArch.mono _ _ _)
      | (with_reducible exact impl_IsSystem.mono _ _)
      | (with_reducible exact impl_OuterArches.mono _ _)
      | (with_reducible exact impl_PutArch.mono _ _ _ _)
      | (with_reducible exact impl_SmallArches.mono _ _)
      | (with_reducible exact laws_sSame.mono _ _ _)
      | (with_reducible exact spec_DepthsOf.mono _ _)
      | (with_reducible exact spec_DrawDepthsOf.mono _ _)
      | (with_reducible exact spec_DrawDropArch.mono _ _)
      | (with_reducible exact spec_DrawPutArch.mono _ _)
      | (with_reducible exact spec_DropArch.mono _ _ _)
      | (with_reducible exact spec_OuterArches.mono _ _)
      | (with_reducible exact spec_PutArch.mono _ _ _ _)
      | (with_reducible exact spec_SmallArches.mono _ _)
      | (with_reducible exact LeO.refl _)
      | (with_reducible exact LeO.none _)
      | (with_reducible refine LeO.ite ?_ ?_)
      | (with_reducible refine LeO.bind ?_ (fun _ => ?_))
      | exact ih0 _ _ _ _ _ _
      | exact ih1 _
      | exact ih2 _ _ _ _ _ _ _
      | exact ih3 _
      | exact ih4 _ _ _ _ _ _
      | exact ih5 _ _ _ _ _ _ _ _ _
      | exact ih6 _ _ _ _ _ _ _ _ _ _ _ _ _ _ _
      | exact ih7 _ _ _ _ _ _ _
      | exact impl_DepthsOf.mono _ _
      | exact impl_DropArch.mono _ _ _
      | exact impl_IsSystem.mono _ _
      | exact impl_OuterArches.mono _ _
      | exact impl_PutArch.mono _ _ _ _
      | exact impl_SmallArches.mono _ _
      | exact laws_sSame.mono _ _ _
      | exact spec_DepthsOf.mono _ _
      | exact spec_DrawDepthsOf.mono _ _
      | exact spec_DrawDropArch.mono _ _
      | exact spec_DrawPutArch.mono _ _
      | exact spec_DropArch.mono _ _ _
      | exact spec_OuterArches.mono _ _
      | exact spec_PutArch.mono _ _ _ _
      | exact spec_SmallArches.mono _ _
      | exact LeO.none _
      | refine LeO.ite ?_ ?_
      | refine LeO.bind ?_ (fun _ => ?_)
    · intro y0 y1 y2 y3 y4 y5 y6 y7 y8 y9 y10 y11 y12 y13 y14
      unfold laws_FnArchesPut.l1
      repeat' first
      | (with_reducible exact ih0 _ _ _ _ _ _)
      | (with_reducible exact ih1 _)
      | (with_reducible exact ih2 _ _ _ _ _ _ _)
      | (with_reducible exact ih3 _)
      | (with_reducible exact ih4 _ _ _ _ _ _)
      | (with_reducible exact ih5 _ _ _ _ _ _ _ _ _)
      | (with_reducible exact ih6 _ _ _ _ _ _ _ _ _ _ _ _ _ _ _)
      | (with_reducible exact ih7 _ _ _ _ _ _ _)
      | (with_reducible exact impl_DepthsOf.mono _ _)
      | (with_reducible exact impl_DropArch.mono _ _ _)
      | (with_reducible exact impl_IsSystem.mono _ _)
      | (with_reducible exact impl_OuterArches.mono _ _)
      | (with_reducible exact impl_PutArch.mono _ _ _ _)
      | (with_reducible exact impl_SmallArches.mono _ _)
      | (with_reducible exact laws_sSame.mono _ _ _)
      | (with_reducible exact spec_DepthsOf.mono _ _)
      | (with_reducible exact spec_DrawDepthsOf.mono _ _)
      | (with_reducible exact spec_DrawDropArch.mono _ _)
      | (with_reducible exact spec_DrawPutArch.mono _ _)
      | (with_reducible exact spec_DropArch.mono _ _ _)
      | (with_reducible exact spec_OuterArches.mono _ _)
      | (with_reducible exact spec_PutArch.mono _ _ _ _)
      | (with_reducible exact spec_SmallArches.mono _ _)
      | (with_reducible exact LeO.refl _)
      | (with_reducible exact LeO.none _)
      | (with_reducible refine LeO.ite ?_ ?_)
      | (with_reducible refine LeO.bind ?_ (fun _ => ?_))
      | exact ih0 _ _ _ _ _ _
      | exact ih1 _
      | exact ih2 _ _ _ _ _ _ _
      | exact ih3 _
      | exact ih4 _ _ _ _ _ _
      | exact ih5 _ _ _ _ _ _ _ _ _
      | exact ih6 _ _ _ _ _ _ _ _ _ _ _ _ _ _ _
      | exact ih7 _ _ _ _ _ _ _
      | exact impl_DepthsOf.mono _ _
      | exact impl_DropArch.mono _ _ _
      | exact impl_IsSystem.mono _ _
      | exact impl_OuterArches.mono _ _
      | exact impl_PutArch.mono _ _ _ _
      | exact impl_SmallArches.mono _ _
      | exact laws_sSame.mono _ _ _
      | exact spec_DepthsOf.mono _ _
      | exact spec_DrawDepthsOf.mono _ _
      | exact spec_DrawDropArch.mono _ _
      | exact spec_DrawPutArch.mono _ _
      | exact spec_DropArch.mono _ _ _
      | exact spec_OuterArches.mono _ _
      | exact spec_PutArch.mono _ _ _ _
      | exact spec_SmallArches.mono _ _
      | exact LeO.none _
      | refine LeO.ite ?_ ?_
      | refine LeO.bind ?_ (fun _ => ?_)
    · intro y0 y1 y2 y3 y4 y5 y6
      unfold laws_FnArchesPut.l2
      repeat' first
      | (with_reducible exact ih0 _ _ _ _ _ _)
      | (with_reducible exact ih1 _)
      | (with_reducible exact ih2 _ _ _ _ _ _ _)
      | (with_reducible exact ih3 _)
      | (with_reducible exact ih4 _ _ _ _ _ _)
      | (with_reducible exact ih5 _ _ _ _ _ _ _ _ _)
      | (with_reducible exact ih6 _ _ _ _ _ _ _ _ _ _ _ _ _ _ _)
      | (with_reducible exact ih7 _ _ _ _ _ _ _)
      | (with_reducible exact impl_DepthsOf.mono _ _)
      | (with_reducible exact impl_DropArch.mono _ _ _)
      | (with_reducible exact impl_IsSystem.mono _ _)
      | (with_reducible exact impl_OuterArches.mono _ _)
      | (with_reducible exact impl_PutArch.mono _ _ _ _)
      | (with_reducible exact impl_SmallArches.mono _ _)
      | (with_reducible exact laws_sSame.mono _ _ _)
      | (with_reducible exact spec_DepthsOf.mono _ _)
      | (with_reducible exact spec_DrawDepthsOf.mono _ _)
      | (with_reducible exact spec_DrawDropArch.mono _ _)
      | (with_reducible exact spec_DrawPutArch.mono _ _)
      | (with_reducible exact spec_DropArch.mono _ _ _)
      | (with_reducible exact spec_OuterArches.mono _ _)
      | (with_reducible exact spec_PutArch.mono _ _ _ _)
      | (with_reducible exact spec_SmallArches.mono _ _)
      | (with_reducible exact LeO.refl _)
      | (with_reducible exact LeO.none _)
      | (with_reducible refine LeO.ite ?_ ?_)
      | (with_reducible refine LeO.bind ?_ (fun _ => ?_))
      | exact ih0 _ _ _ _ _ _
      | exact ih1 _
      | exact ih2 _ _ _ _ _ _ _
      | exact ih3 _
      | exact ih4 _ _ _ _ _ _
      | exact ih5 _ _ _ _ _ _ _ _ _
      | exact ih6 _ _ _ _ _ _ _ _ _ _ _ _ _ _ _
      | exact ih7 _ _ _ _ _ _ _
      | exact impl_DepthsOf.mono _ _
      | exact impl_DropArch.mono _ _ _
      | exact impl_IsSystem.mono _ _
      | exact impl_OuterArches.mono _ _
      | exact impl_PutArch.mono _ _ _ _
      | exact impl_SmallArches.mono _ _
      | exact laws_sSame.mono _ _ _
      | exact spec_DepthsOf.mono _ _
      | exact spec_DrawDepthsOf.mono _ _
      | exact spec_DrawDropArch.mono _ _
      | exact spec_DrawPutArch.mono _ _
      | exact spec_DropArch.mono _ _ _
      | exact spec_OuterArches.mono _ _
      | exact spec_PutArch.mono _ _ _ _
      | exact spec_SmallArches.mono _ _
      | exact LeO.none _
      | refine LeO.ite ?_ ?_
      | refine LeO.bind ?_ (fun _ => ?_)
theorem laws_FnArchesPut.mono : ∀ a0 a1 k, LeO (laws_FnArchesPut.f k a0 a1) (laws_FnArchesPut.f (k + 1) a0 a1) := by
  intro a0 a1 k
  obtain ⟨ih0, ih1, ih2, ih3, ih4, ih5, ih6, ih7⟩ := laws_FnArchesPut.mono_l k
  unfold laws_FnArchesPut.f
  repeat' first
      | (with_reducible exact ih0 _ _ _ _ _ _)
      | (with_reducible exact ih1 _)
      | (with_reducible exact ih2 _ _ _ _ _ _ _)
      | (with_reducible exact ih3 _)
      | (with_reducible exact ih4 _ _ _ _ _ _)
      | (with_reducible exact ih5 _ _ _ _ _ _ _ _ _)
      | (with_reducible exact ih6 _ _ _ _ _ _ _ _ _ _ _ _ _ _ _)
      | (with_reducible exact ih7 _ _ _ _ _ _ _)
      | (with_reducible exact impl_DepthsOf.mono _ _)
      | (with_reducible exact impl_DropArch.mono _ _ _)
      | (with_reducible exact impl_IsSystem.mono _ _)
      | (with_reducible exact impl_OuterArches.mono _ _)
      | (with_reducible exact impl_PutArch.mono _ _ _ _)
      | (with_reducible exact impl_SmallArches.mono _ _)
      | (with_reducible exact laws_sSame.mono _ _ _)
      | (with_reducible exact spec_DepthsOf.mono _ _)
      | (with_reducible exact spec_DrawDepthsOf.mono _ _)
      | (with_reducible exact spec_DrawDropArch.mono _ _)
      | (with_reducible exact spec_DrawPutArch.mono _ _)
      | (with_reducible exact spec_DropArch.mono _ _ _)
      | (with_reducible exact spec_OuterArches.mono _ _)
      | (with_reducible exact spec_PutArch.mono _ _ _ _)
      | (with_reducible exact spec_SmallArches.mono _ _)
      | (with_reducible exact LeO.refl _)
      | (with_reducible exact LeO.none _)
      | (with_reducible refine LeO.ite ?_ ?_)
      | (with_reducible refine LeO.bind ?_ (fun _ => ?_))
      | exact ih0 _ _ _ _ _ _
      | exact ih1 _
      | exact ih2 _ _ _ _ _ _ _
      | exact ih3 _
      | exact ih4 _ _ _ _ _ _
      | exact ih5 _ _ _ _ _ _ _ _ _
      | exact ih6 _ _ _ _ _ _ _ _ _ _ _ _ _ _ _
      | exact ih7 _ _ _ _ _ _ _
      | exact impl_DepthsOf.mono _ _
      | exact impl_DropArch.mono _ _ _
      | exact impl_IsSystem.mono _ _
      | exact impl_OuterArches.mono _ _
      | exact impl_PutArch.mono _ _ _ _
      | exact impl_SmallArches.mono _ _
      | exact laws_sSame.mono _ _ _
      | exact spec_DepthsOf.mono _ _
      | exact spec_DrawDepthsOf.mono _ _
      | exact spec_DrawDropArch.mono _ _
      | exact spec_DrawPutArch.mono _ _
      | exact spec_DropArch.mono _ _ _
      | exact spec_OuterArches.mono _ _
      | exact spec_PutArch.mono _ _ _ _
      | exact spec_SmallArches.mono _ _
      | exact LeO.none _
      | refine LeO.ite ?_ ?_
      | refine LeO.bind ?_ (fun _ => ?_)
theorem laws_FnArchesPut.j0_no : ∀ k y0 y1 y2 y3 y4, ¬ laws_FnArchesPut.j0 k y0 y1 y2 y3 y4 true = some true
  | 0, _, _, _, _, _ => by simp [laws_FnArchesPut.j0]
  | k + 1, _, _, _, _, _ => by simp [laws_FnArchesPut.j0]
theorem laws_FnArchesPut.j2_no : ∀ k y0 y1 y2 y3 y4 y5, ¬ laws_FnArchesPut.j2 k y0 y1 y2 y3 y4 y5 true = some true
  | 0, _, _, _, _, _, _ => by simp [laws_FnArchesPut.j2]
  | k + 1, _, _, _, _, _, _ => by simp [laws_FnArchesPut.j2]
theorem laws_FnArchesPut.j4_no : ∀ k y0 y1 y2 y3 y4, ¬ laws_FnArchesPut.j4 k y0 y1 y2 y3 y4 true = some true
  | 0, _, _, _, _, _ => by simp [laws_FnArchesPut.j4]
  | k + 1, _, _, _, _, _ => by simp [laws_FnArchesPut.j4]
def laws_FnArchesPut.left : Code → Option Nat
  | .seq a _ => laws_FnArchesPut.left a
  | .region m _ _ => some m
  | _ => none
def laws_FnArchesPut.findRest (n : Nat) : Code → Option Code
  | .seq a b => if laws_FnArchesPut.left a = some n then some (.seq a b) else match laws_FnArchesPut.findRest n a with
    | some c => some c
    | none => laws_FnArchesPut.findRest n b
  | .cond _ a b => match laws_FnArchesPut.findRest n a with
    | some c => some c
    | none => laws_FnArchesPut.findRest n b
  | .block _ c => laws_FnArchesPut.findRest n c
  | .loop c => laws_FnArchesPut.findRest n c
  | .scope c => laws_FnArchesPut.findRest n c
  | _ => none
def laws_FnArchesPut.findCond (n : Nat) : Code → Option Code
  | .seq a b => match laws_FnArchesPut.findCond n a with
    | some c => some c
    | none => laws_FnArchesPut.findCond n b
  | .cond c a b => match c with
    | .tmp m => if m = n then some (.cond (.tmp m) a b) else match laws_FnArchesPut.findCond n a with
      | some c => some c
      | none => laws_FnArchesPut.findCond n b
    | _ => match laws_FnArchesPut.findCond n a with
      | some c => some c
      | none => laws_FnArchesPut.findCond n b
  | .block _ c => laws_FnArchesPut.findCond n c
  | .loop c => laws_FnArchesPut.findCond n c
  | .scope c => laws_FnArchesPut.findCond n c
  | _ => none

end Go.Proofs.Ytonobgbpgeielaa.QFnArchesPut
