-- Written by wip/myprint.py (a program of mine round the kit's printer). Lean checks it.
import Derived.Test.YtonobgbpgeielaaQFnSystemsMovedx0
import Derived.Test.YtonobgbpgeielaaQFnSystemsMovedx1
import Derived.Test.YtonobgbpgeielaaQFnSystemsMovedx2
import Derived.Test.YtonobgbpgeielaaQFnSystemsMovedx3
import Derived.Test.YtonobgbpgeielaaQFnSystemsMovedx5
import Derived.Test.YtonobgbpgeielaaQFnSystemsMovedx6
import Derived.Test.YtonobgbpgeielaaQFnSystemsMovedx7
namespace Go.Proofs.Ytonobgbpgeielaa.QFnSystemsMoved
open Go.RowKit Go.Proofs.YtonobgbpgeielaaW.PrintWords Go.Proofs.YtonobgbpgeielaaW.PrintLast Go.Proofs.YtonobgbpgeielaaW.PrintMore
attribute [local go_sem] max2_int min2_int max_two min_two max_three min_three max_four min_four   -- for this text's walks alone
set_option linter.unusedVariables false
set_option linter.unusedSimpArgs false

theorem R2_ {d : Kd Int} {e : TypeId} {W w1 : World} {base : Nat} {ok ok1 ok2 : Nat → Prop} {u v0 v1 : Value} {xs y0 y1 : List Int} (hu : Kd.R d e W base ok u xs) (hb : Below W.heap.size W w1) (h0 : Kd.R d e w1 W.heap.size ok1 v0 y0) (h1 : Kd.R d e w1 W.heap.size ok2 v1 y1) :
    Kd.R d e w1 base (fun k => (ok k ∧ some k ≠ v0.ownBlock) ∧ some k ≠ v1.ownBlock) u xs :=
  Kd.R_mono (Kd.R_told (Kd.R_told (Kd.R_old hu hb) (Kd.R_base h0)) (Kd.R_base h1)) (fun _ h_ => h_.1)
/-! ### laws_FnSystemsMoved: function 4 -/
mutual
def laws_FnSystemsMoved.j0 : Nat → List Int → List Int → List Int → Int → List Int → Bool → Bool → Option (Bool)
  | 0, _, _, _, _, _, _, _ => none
  | k + 1, x0, x1, x5, x6, x7, x10, x89 => if x89 = true then (some false) else ((spec_DrawJoinSystems.f k x1).bind fun bt427 => ((impl_JoinSystems.f k bt427.1 bt427.2).bind fun bt433 => ((spec_JoinSystems.f k bt427.1 bt427.2).bind fun bt437 => (if (bt433.2 != bt437.2) = true then (laws_FnSystemsMoved.j1 k x0 x1 x5 x6 x7 x10 bt427.1 bt427.2 bt433.1 bt433.2 true) else ((laws_sSame.f k bt433.1 bt437.1).bind fun t441 => (laws_FnSystemsMoved.j1 k x0 x1 x5 x6 x7 x10 bt427.1 bt427.2 bt433.1 bt433.2 (!t441)))))))
def laws_FnSystemsMoved.j1 : Nat → List Int → List Int → List Int → Int → List Int → Bool → List Int → List Int → List Int → Bool → Bool → Option (Bool)
  | 0, _, _, _, _, _, _, _, _, _, _, _ => none
  | k + 1, x0, x1, x5, x6, x7, x10, x11, x12, x13, x14, x115 => if x115 = true then (some false) else (if x14 = true then ((impl_SystemText.f k x11).bind fun bt442 => ((impl_SystemText.f k x12).bind fun bt444 => ((impl_SystemText.f k x13).bind fun bt446 => (if bt442.2 = true then (if bt444.2 = true then (if bt446.2 = true then (if bt442.1.size + bt444.1.size ≤ 9223372036854775807 then (if (bt442.1 ++ bt444.1).toList = bt446.1.toList then (laws_FnSystemsMoved.j2 k x0 x1 x5 x6 x7 x10) else (some false)) else (none)) else (some false)) else (some false)) else (some false))))) else (laws_FnSystemsMoved.j2 k x0 x1 x5 x6 x7 x10))
def laws_FnSystemsMoved.j2 : Nat → List Int → List Int → List Int → Int → List Int → Bool → Option (Bool)
  | 0, _, _, _, _, _, _ => none
  | k + 1, x0, x1, x5, x6, x7, x10 => (spec_DrawCoverSystem.f k x1).bind fun t448 => ((impl_CoverSystem.f k t448).bind fun bt451 => ((spec_CoverSystem.f k t448).bind fun bt455 => ((impl_MirrorSystem.f k t448).bind fun bt459 => ((spec_MirrorSystem.f k t448).bind fun bt463 => (if (bt451.2 != bt455.2) = true then (laws_FnSystemsMoved.j3 k x0 x5 x6 x7 x10 t448 bt451.1 bt451.2 bt459.1 bt459.2 true) else ((laws_sSame.f k bt451.1 bt455.1).bind fun t467 => (if t467 = true then (if (bt459.2 != bt463.2) = true then (laws_FnSystemsMoved.j3 k x0 x5 x6 x7 x10 t448 bt451.1 bt451.2 bt459.1 bt459.2 true) else ((laws_sSame.f k bt459.1 bt463.1).bind fun t468 => (laws_FnSystemsMoved.j3 k x0 x5 x6 x7 x10 t448 bt451.1 bt451.2 bt459.1 bt459.2 (!t468)))) else (laws_FnSystemsMoved.j3 k x0 x5 x6 x7 x10 t448 bt451.1 bt451.2 bt459.1 bt459.2 true))))))))
def laws_FnSystemsMoved.j3 : Nat → List Int → List Int → Int → List Int → Bool → List Int → List Int → Bool → List Int → Bool → Bool → Option (Bool)
  | 0, _, _, _, _, _, _, _, _, _, _, _ => none
  | k + 1, x0, x5, x6, x7, x10, x23, x24, x25, x28, x29, x190 => if x190 = true then (some false) else (if x29 = true then ((impl_MirrorSystem.f k x28).bind fun bt469 => (if bt469.2 = true then ((laws_sSame.f k bt469.1 x23).bind fun t473 => (if t473 = true then (laws_FnSystemsMoved.j4 k x0 x5 x6 x7 x10 x23 x24 x25) else (some false))) else (some false))) else (laws_FnSystemsMoved.j4 k x0 x5 x6 x7 x10 x23 x24 x25))
def laws_FnSystemsMoved.j4 : Nat → List Int → List Int → Int → List Int → Bool → List Int → List Int → Bool → Option (Bool)
  | 0, _, _, _, _, _, _, _, _ => none
  | k + 1, x0, x5, x6, x7, x10, x23, x24, x25 => if x25 = true then ((impl_SystemText.f k x23).bind fun bt474 => ((impl_SystemText.f k x24).bind fun bt476 => ((impl_OuterArches.f k x24).bind fun bt478 => (if bt474.2 = true then (if bt476.2 = true then (if 1 + bt474.1.size ≤ 9223372036854775807 then (if ((⟨#[40]⟩ : ByteArray) ++ bt474.1).size + 1 ≤ 9223372036854775807 then (if bt476.1.toList = (((⟨#[40]⟩ : ByteArray) ++ bt474.1) ++ (⟨#[41]⟩ : ByteArray)).toList then (if bt478.2 = true then (if (bt478.1.length : Int) = 1 then (laws_FnSystemsMoved.j5 k x0 x5 x6 x7 x10) else (some false)) else (some false)) else (some false)) else (none)) else (none)) else (some false)) else (some false))))) else (laws_FnSystemsMoved.j5 k x0 x5 x6 x7 x10)
def laws_FnSystemsMoved.j5 : Nat → List Int → List Int → Int → List Int → Bool → Option (Bool)
  | 0, _, _, _, _, _ => none
  | k + 1, x0, x5, x6, x7, x10 => (spec_DrawRainbowOf.f x0).bind fun t482 => ((impl_RainbowOf.f k t482).bind fun bt483 => ((impl_FlatOf.f k t482).bind fun bt487 => ((spec_RainbowOf.f k t482).bind fun bt491 => ((spec_FlatOf.f k t482).bind fun bt495 => (if (bt483.2 != bt491.2) = true then (laws_FnSystemsMoved.j6 k x5 x6 x7 x10 bt483.1 bt483.2 bt487.1 true) else (if (bt487.2 != bt495.2) = true then (laws_FnSystemsMoved.j6 k x5 x6 x7 x10 bt483.1 bt483.2 bt487.1 true) else ((laws_sSame.f k bt483.1 bt491.1).bind fun t499 => (if t499 = true then ((laws_sSame.f k bt487.1 bt495.1).bind fun t500 => (laws_FnSystemsMoved.j6 k x5 x6 x7 x10 bt483.1 bt483.2 bt487.1 (!t500))) else (laws_FnSystemsMoved.j6 k x5 x6 x7 x10 bt483.1 bt483.2 bt487.1 true)))))))))
def laws_FnSystemsMoved.j6 : Nat → List Int → Int → List Int → Bool → List Int → Bool → List Int → Bool → Option (Bool)
  | 0, _, _, _, _, _, _, _, _ => none
  | k + 1, x5, x6, x7, x10, x41, x42, x43, x284 => if x284 = true then (some false) else (if x42 = true then ((impl_MirrorSystem.f k x41).bind fun bt501 => ((impl_MirrorSystem.f k x43).bind fun bt505 => ((impl_DepthsOf.f k x41).bind fun bt509 => (if bt501.2 = true then (if bt505.2 = true then (if bt509.2 = true then ((laws_sSame.f k bt501.1 x41).bind fun t513 => (if t513 = true then ((laws_sSame.f k bt505.1 x43).bind fun t514 => (laws_FnSystemsMoved.j7 k x5 x6 x7 x10 bt509.1 (!t514))) else (laws_FnSystemsMoved.j7 k x5 x6 x7 x10 bt509.1 true))) else (laws_FnSystemsMoved.j7 k x5 x6 x7 x10 bt509.1 true)) else (laws_FnSystemsMoved.j7 k x5 x6 x7 x10 bt509.1 true)) else (laws_FnSystemsMoved.j7 k x5 x6 x7 x10 bt509.1 true))))) else (laws_FnSystemsMoved.j9 k x5 x6 x7 x10))
def laws_FnSystemsMoved.j9 : Nat → List Int → Int → List Int → Bool → Option (Bool)
  | 0, _, _, _, _ => none
  | k + 1, x5, x6, x7, x10 => if x10 = true then ((impl_TurnSystem.f k x7 (wrap64 (-x6))).bind fun bt516 => ((impl_TurnSystem.f k x5 (x5.length : Int)).bind fun bt520 => (if bt516.2 = true then (if bt520.2 = true then ((impl_IsSystem.f k x7).bind fun t524 => (if t524 = true then ((laws_sSame.f k bt516.1 x5).bind fun t525 => (if t525 = true then ((laws_sSame.f k bt520.1 x5).bind fun t526 => (some t526)) else (some false))) else (some false))) else (some false)) else (some false)))) else (some true)
def laws_FnSystemsMoved.j7 : Nat → List Int → Int → List Int → Bool → List Int → Bool → Option (Bool)
  | 0, _, _, _, _, _, _ => none
  | k + 1, x5, x6, x7, x10, x53, x322 => if x322 = true then (some false) else (laws_FnSystemsMoved.l0 k x5 x6 x7 x10 x53 (x53.length : Int) 0)
def laws_FnSystemsMoved.l0 : Nat → List Int → Int → List Int → Bool → List Int → Int → Int → Option (Bool)
  | 0, _, _, _, _, _, _, _ => none
  | k + 1, x5, x6, x7, x10, x323, x324, x325 => if x325 < x324 then (if 0 ≤ x325 then (if x325 < (x323.length : Int) then (if (rd x323 x325) = x325 then (laws_FnSystemsMoved.l0 k x5 x6 x7 x10 x323 x324 (wrap64 (x325 + 1))) else (some false)) else (none)) else (none)) else (laws_FnSystemsMoved.j9 k x5 x6 x7 x10)
end
def laws_FnSystemsMoved.f (k : Nat) (l0 : List Int) (l1 : List Int) : Option (Bool) := (laws_big.f l0 l1).bind fun t413 => (if t413 = true then (some true) else ((spec_DrawTurnSystem.f k l0).bind fun bt414 => ((impl_TurnSystem.f k bt414.1 bt414.2).bind fun bt418 => ((spec_TurnSystem.f k bt414.1 bt414.2).bind fun bt422 => (if (bt418.2 != bt422.2) = true then (laws_FnSystemsMoved.j0 k l0 l1 bt414.1 bt414.2 bt418.1 bt422.2 true) else ((laws_sSame.f k bt418.1 bt422.1).bind fun t426 => (laws_FnSystemsMoved.j0 k l0 l1 bt414.1 bt414.2 bt418.1 bt422.2 (!t426))))))))
theorem laws_FnSystemsMoved.mono_l : ∀ k, (∀ y0 y1 y2 y3 y4 y5 y6, LeO (laws_FnSystemsMoved.j0 k y0 y1 y2 y3 y4 y5 y6) (laws_FnSystemsMoved.j0 (k + 1) y0 y1 y2 y3 y4 y5 y6)) ∧ (∀ y0 y1 y2 y3 y4 y5 y6 y7 y8 y9 y10, LeO (laws_FnSystemsMoved.j1 k y0 y1 y2 y3 y4 y5 y6 y7 y8 y9 y10) (laws_FnSystemsMoved.j1 (k + 1) y0 y1 y2 y3 y4 y5 y6 y7 y8 y9 y10)) ∧ (∀ y0 y1 y2 y3 y4 y5, LeO (laws_FnSystemsMoved.j2 k y0 y1 y2 y3 y4 y5) (laws_FnSystemsMoved.j2 (k + 1) y0 y1 y2 y3 y4 y5)) ∧ (∀ y0 y1 y2 y3 y4 y5 y6 y7 y8 y9 y10, LeO (laws_FnSystemsMoved.j3 k y0 y1 y2 y3 y4 y5 y6 y7 y8 y9 y10) (laws_FnSystemsMoved.j3 (k + 1) y0 y1 y2 y3 y4 y5 y6 y7 y8 y9 y10)) ∧ (∀ y0 y1 y2 y3 y4 y5 y6 y7, LeO (laws_FnSystemsMoved.j4 k y0 y1 y2 y3 y4 y5 y6 y7) (laws_FnSystemsMoved.j4 (k + 1) y0 y1 y2 y3 y4 y5 y6 y7)) ∧ (∀ y0 y1 y2 y3 y4, LeO (laws_FnSystemsMoved.j5 k y0 y1 y2 y3 y4) (laws_FnSystemsMoved.j5 (k + 1) y0 y1 y2 y3 y4)) ∧ (∀ y0 y1 y2 y3 y4 y5 y6 y7, LeO (laws_FnSystemsMoved.j6 k y0 y1 y2 y3 y4 y5 y6 y7) (laws_FnSystemsMoved.j6 (k + 1) y0 y1 y2 y3 y4 y5 y6 y7)) ∧ (∀ y0 y1 y2 y3, LeO (laws_FnSystemsMoved.j9 k y0 y1 y2 y3) (laws_FnSystemsMoved.j9 (k + 1) y0 y1 y2 y3)) ∧ (∀ y0 y1 y2 y3 y4 y5, LeO (laws_FnSystemsMoved.j7 k y0 y1 y2 y3 y4 y5) (laws_FnSystemsMoved.j7 (k + 1) y0 y1 y2 y3 y4 y5)) ∧ (∀ y0 y1 y2 y3 y4 y5 y6, LeO (laws_FnSystemsMoved.l0 k y0 y1 y2 y3 y4 y5 y6) (laws_FnSystemsMoved.l0 (k + 1) y0 y1 y2 y3 y4 y5 y6))
  | 0 => ⟨fun _ _ _ _ _ _ _ r h => by simp [laws_FnSystemsMoved.j0] at h, fun _ _ _ _ _ _ _ _ _ _ _ r h => by simp [laws_FnSystemsMoved.j1] at h, fun _ _ _ _ _ _ r h => by simp [laws_FnSystemsMoved.j2] at h, fun _ _ _ _ _ _ _ _ _ _ _ r h => by simp [laws_FnSystemsMoved.j3] at h, fun _ _ _ _ _ _ _ _ r h => by simp [laws_FnSystemsMoved.j4] at h, fun _ _ _ _ _ r h => by simp [laws_FnSystemsMoved.j5] at h, fun _ _ _ _ _ _ _ _ r h => by simp [laws_FnSystemsMoved.j6] at h, fun _ _ _ _ r h => by simp [laws_FnSystemsMoved.j9] at h, fun _ _ _ _ _ _ r h => by simp [laws_FnSystemsMoved.j7] at h, fun _ _ _ _ _ _ _ r h => by simp [laws_FnSystemsMoved.l0] at h⟩
  | k + 1 => by
    obtain ⟨ih0, ih1, ih2, ih3, ih4, ih5, ih6, ih7, ih8, ih9⟩ := laws_FnSystemsMoved.mono_l k
    refine ⟨?_, ?_, ?_, ?_, ?_, ?_, ?_, ?_, ?_, ?_⟩
    · intro y0 y1 y2 y3 y4 y5 y6
      unfold laws_FnSystemsMoved.j0
      repeat' first
      | (with_reducible exact ih0 _ _ _ _ _ _ _)
      | (with_reducible exact ih1 _ _ _ _ _ _ _ _ _ _ _)
      | (with_reducible exact ih2 _ _ _ _ _ _)
      | (with_reducible exact ih3 _ _ _ _ _ _ _ _ _ _ _)
      | (with_reducible exact ih4 _ _ _ _ _ _ _ _)
      | (with_reducible exact ih5 _ _ _ _ _)
      | (with_reducible exact ih6 _ _ _ _ _ _ _ _)
      | (with_reducible exact ih7 _ _ _ _)
      | (with_reducible exact ih8 _ _ _ _ _ _)
      | (with_reducible exact ih9 _ _ _ _ _ _ _)
      | (with_reducible exact impl_CoverSystem.mono _ _)
      | (with_reducible exact impl_DepthsOf.mono _ _)
      | (with_reducible exact impl_FlatOf.mono _ _)
      | (with_reducible exact impl_IsSystem.mono _ _)
      | (with_reducible exact impl_JoinSystems.mono _ _ _)
      | (with_reducible exact impl_MirrorSystem.mono _ _)
      | (with_reducible exact impl_OuterArches.mono _ _)
      | (with_reducible exact impl_RainbowOf.mono _ _)
      | (with_reducible exact impl_SystemText.mono _ _)
      | (with_reducible exact impl_TurnSystem.mono _ _ _)
      | (with_reducible exact laws_sSame.mono _ _ _)
      | (with_reducible exact spec_CoverSystem.mono _ _)
      | (with_reducible exact spec_DrawCoverSystem.mono _ _)
      | (with_reducible exact spec_DrawJoinSystems.mono _ _)
      | (with_reducible exact spec_DrawTurnSystem.mono _ _)
      | (with_reducible exact spec_FlatOf.mono _ _)
      | (with_reducible exact spec_JoinSystems.mono _ _ _)
      | (with_reducible exact spec_MirrorSystem.mono _ _)
      | (with_reducible exact spec_RainbowOf.mono _ _)
      | (with_reducible exact spec_TurnSystem.mono _ _ _)
      | (with_reducible exact LeO.refl _)
      | (with_reducible exact LeO.none _)
      | (with_reducible refine LeO.ite ?_ ?_)
      | (with_reducible refine LeO.bind ?_ (fun _ => ?_))
      | exact LeO.none _
      | refine LeO.ite ?_ ?_
      | refine LeO.bind ?_ (fun _ => ?_)
    · intro y0 y1 y2 y3 y4 y5 y6 y7 y8 y9 y10
      unfold laws_FnSystemsMoved.j1
      repeat' first
      | (with_reducible exact ih0 _ _ _ _ _ _ _)
      | (with_reducible exact ih1 _ _ _ _ _ _ _ _ _ _ _)
      | (with_reducible exact ih2 _ _ _ _ _ _)
      | (with_reducible exact ih3 _ _ _ _ _ _ _ _ _ _ _)
      | (with_reducible exact ih4 _ _ _ _ _ _ _ _)
      | (with_reducible exact ih5 _ _ _ _ _)
      | (with_reducible exact ih6 _ _ _ _ _ _ _ _)
      | (with_reducible exact ih7 _ _ _ _)
      | (with_reducible exact ih8 _ _ _ _ _ _)
      | (with_reducible exact ih9 _ _ _ _ _ _ _)
      | (with_reducible exact impl_CoverSystem.mono _ _)
      | (with_reducible exact impl_DepthsOf.mono _ _)
      | (with_reducible exact impl_FlatOf.mono _ _)
      | (with_reducible exact impl_IsSystem.mono _ _)
      | (with_reducible exact impl_JoinSystems.mono _ _ _)
      | (with_reducible exact impl_MirrorSystem.mono _ _)
      | (with_reducible exact impl_OuterArches.mono _ _)
      | (with_reducible exact impl_RainbowOf.mono _ _)
      | (with_reducible exact impl_SystemText.mono _ _)
      | (with_reducible exact impl_TurnSystem.mono _ _ _)
      | (with_reducible exact laws_sSame.mono _ _ _)
      | (with_reducible exact spec_CoverSystem.mono _ _)
      | (with_reducible exact spec_DrawCoverSystem.mono _ _)
      | (with_reducible exact spec_DrawJoinSystems.mono _ _)
      | (with_reducible exact spec_DrawTurnSystem.mono _ _)
      | (with_reducible exact spec_FlatOf.mono _ _)
      | (with_reducible exact spec_JoinSystems.mono _ _ _)
      | (with_reducible exact spec_MirrorSystem.mono _ _)
      | (with_reducible exact spec_RainbowOf.mono _ _)
      | (with_reducible exact spec_TurnSystem.mono _ _ _)
      | (with_reducible exact LeO.refl _)
      | (with_reducible exact LeO.none _)
      | (with_reducible refine LeO.ite ?_ ?_)
      | (with_reducible refine LeO.bind ?_ (fun _ => ?_))
      | exact LeO.none _
      | refine LeO.ite ?_ ?_
      | refine LeO.bind ?_ (fun _ => ?_)
    · intro y0 y1 y2 y3 y4 y5
      unfold laws_FnSystemsMoved.j2
      repeat' first
      | (with_reducible exact ih0 _ _ _ _ _ _ _)
      | (with_reducible exact ih1 _ _ _ _ _ _ _ _ _ _ _)
      | (with_reducible exact ih2 _ _ _ _ _ _)
      | (with_reducible exact ih3 _ _ _ _ _ _ _ _ _ _ _)
      | (with_reducible exact ih4 _ _ _ _ _ _ _ _)
      | (with_reducible exact ih5 _ _ _ _ _)
      | (with_reducible exact ih6 _ _ _ _ _ _ _ _)
      | (with_reducible exact ih7 _ _ _ _)
      | (with_reducible exact ih8 _ _ _ _ _ _)
      | (with_reducible exact ih9 _ _ _ _ _ _ _)
      | (with_reducible exact impl_CoverSystem.mono _ _)
      | (with_reducible exact impl_DepthsOf.mono _ _)
      | (with_reducible exact impl_FlatOf.mono _ _)
      | (with_reducible exact impl_IsSystem.mono _ _)
      | (with_reducible exact impl_JoinSystems.mono _ _ _)
      | (with_reducible exact impl_MirrorSystem.mono _ _)
      | (with_reducible exact impl_OuterArches.mono _ _)
      | (with_reducible exact impl_RainbowOf.mono _ _)
      | (with_reducible exact impl_SystemText.mono _ _)
      | (with_reducible exact impl_TurnSystem.mono _ _ _)
      | (with_reducible exact laws_sSame.mono _ _ _)
      | (with_reducible exact spec_CoverSystem.mono _ _)
      | (with_reducible exact spec_DrawCoverSystem.mono _ _)
      | (with_reducible exact spec_DrawJoinSystems.mono _ _)
      | (with_reducible exact spec_DrawTurnSystem.mono _ _)
      | (with_reducible exact spec_FlatOf.mono _ _)
      | (with_reducible exact spec_JoinSystems.mono _ _ _)
      | (with_reducible exact spec_MirrorSystem.mono _ _)
      | (with_reducible exact spec_RainbowOf.mono _ _)
      | (with_reducible exact spec_TurnSystem.mono _ _ _)
      | (with_reducible exact LeO.refl _)
      | (with_reducible exact LeO.none _)
      | (with_reducible refine LeO.ite ?_ ?_)
      | (with_reducible refine LeO.bind ?_ (fun _ => ?_))
      | exact LeO.none _
      | refine LeO.ite ?_ ?_
      | refine LeO.bind ?_ (fun _ => ?_)
    · intro y0 y1 y2 y3 y4 y5 y6 y7 y8 y9 y10
      unfold laws_FnSystemsMoved.j3
      repeat' first
      | (with_reducible exact ih0 _ _ _ _ _ _ _)
      | (with_reducible exact ih1 _ _ _ _ _ _ _ _ _ _ _)
      | (with_reducible exact ih2 _ _ _ _ _ _)
      | (with_reducible exact ih3 _ _ _ _ _ _ _ _ _ _ _)
      | (with_reducible exact ih4 _ _ _ _ _ _ _ _)
      | (with_reducible exact ih5 _ _ _ _ _)
      | (with_reducible exact ih6 _ _ _ _ _ _ _ _)
      | (with_reducible exact ih7 _ _ _ _)
      | (with_reducible exact ih8 _ _ _ _ _ _)
      | (with_reducible exact ih9 _ _ _ _ _ _ _)
      | (with_reducible exact impl_CoverSystem.mono _ _)
      | (with_reducible exact impl_DepthsOf.mono _ _)
      | (with_reducible exact impl_FlatOf.mono _ _)
      | (with_reducible exact impl_IsSystem.mono _ _)
      | (with_reducible exact impl_JoinSystems.mono _ _ _)
      | (with_reducible exact impl_MirrorSystem.mono _ _)
      | (with_reducible exact impl_OuterArches.mono _ _)
      | (with_reducible exact impl_RainbowOf.mono _ _)
      | (with_reducible exact impl_SystemText.mono _ _)
      | (with_reducible exact impl_TurnSystem.mono _ _ _)
      | (with_reducible exact laws_sSame.mono _ _ _)
      | (with_reducible exact spec_CoverSystem.mono _ _)
      | (with_reducible exact spec_DrawCoverSystem.mono _ _)
      | (with_reducible exact spec_DrawJoinSystems.mono _ _)
      | (with_reducible exact spec_DrawTurnSystem.mono _ _)
      | (with_reducible exact spec_FlatOf.mono _ _)
      | (with_reducible exact spec_JoinSystems.mono _ _ _)
      | (with_reducible exact spec_MirrorSystem.mono _ _)
      | (with_reducible exact spec_RainbowOf.mono _ _)
      | (with_reducible exact spec_TurnSystem.mono _ _ _)
      | (with_reducible exact LeO.refl _)
      | (with_reducible exact LeO.none _)
      | (with_reducible refine LeO.ite ?_ ?_)
      | (with_reducible refine LeO.bind ?_ (fun _ => ?_))
      | exact LeO.none _
      | refine LeO.ite ?_ ?_
      | refine LeO.bind ?_ (fun _ => ?_)
    · intro y0 y1 y2 y3 y4 y5 y6 y7
      unfold laws_FnSystemsMoved.j4
      repeat' first
      | (with_reducible exact ih0 _ _ _ _ _ _ _)
      | (with_reducible exact ih1 _ _ _ _ _ _ _ _ _ _ _)
      | (with_reducible exact ih2 _ _ _ _ _ _)
      | (with_reducible exact ih3 _ _ _ _ _ _ _ _ _ _ _)
      | (with_reducible exact ih4 _ _ _ _ _ _ _ _)
      | (with_reducible exact ih5 _ _ _ _ _)
      | (with_reducible exact ih6 _ _ _ _ _ _ _ _)
      | (with_reducible exact ih7 _ _ _ _)
      | (with_reducible exact ih8 _ _ _ _ _ _)
      | (with_reducible exact ih9 _ _ _ _ _ _ _)
      | (with_reducible exact impl_CoverSystem.mono _ _)
      | (with_reducible exact impl_DepthsOf.mono _ _)
      | (with_reducible exact impl_FlatOf.mono _ _)
      | (with_reducible exact impl_IsSystem.mono _ _)
      | (with_reducible exact impl_JoinSystems.mono _ _ _)
      | (with_reducible exact impl_MirrorSystem.mono _ _)
      | (with_reducible exact impl_OuterArches.mono _ _)
      | (with_reducible exact impl_RainbowOf.mono _ _)
      | (with_reducible exact impl_SystemText.mono _ _)
      | (with_reducible exact impl_TurnSystem.mono _ _ _)
      | (with_reducible exact laws_sSame.mono _ _ _)
      | (with_reducible exact spec_CoverSystem.mono _ _)
      | (with_reducible exact spec_DrawCoverSystem.mono _ _)
      | (with_reducible exact spec_DrawJoinSystems.mono _ _)
      | (with_reducible exact spec_DrawTurnSystem.mono _ _)
      | (with_reducible exact spec_FlatOf.mono _ _)
      | (with_reducible exact spec_JoinSystems.mono _ _ _)
      | (with_reducible exact spec_MirrorSystem.mono _ _)
      | (with_reducible exact spec_RainbowOf.mono _ _)
      | (with_reducible exact spec_TurnSystem.mono _ _ _)
      | (with_reducible exact LeO.refl _)
      | (with_reducible exact LeO.none _)
      | (with_reducible refine LeO.ite ?_ ?_)
      | (with_reducible refine LeO.bind ?_ (fun _ => ?_))
      | exact LeO.none _
      | refine LeO.ite ?_ ?_
      | refine LeO.bind ?_ (fun _ => ?_)
    · intro y0 y1 y2 y3 y4
      unfold laws_FnSystemsMoved.j5
      repeat' first
      | (with_reducible exact ih0 _ _ _ _ _ _ _)
      | (with_reducible exact ih1 _ _ _ _ _ _ _ _ _ _ _)
      | (with_reducible exact ih2 _ _ _ _ _ _)
      | (with_reducible exact ih3 _ _ _ _ _ _ _ _ _ _ _)
      | (with_reducible exact ih4 _ _ _ _ _ _ _ _)
      | (with_reducible exact ih5 _ _ _ _ _)
      | (with_reducible exact ih6 _ _ _ _ _ _ _ _)
      | (with_reducible exact ih7 _ _ _ _)
      | (with_reducible exact ih8 _ _ _ _ _ _)
      | (with_reducible exact ih9 _ _ _ _ _ _ _)
      | (with_reducible exact impl_CoverSystem.mono _ _)
      | (with_reducible exact impl_DepthsOf.mono _ _)
      | (with_reducible exact impl_FlatOf.mono _ _)
      | (with_reducible exact impl_IsSystem.mono _ _)
      | (with_reducible exact impl_JoinSystems.mono _ _ _)
      | (with_reducible exact impl_MirrorSystem.mono _ _)
      | (with_reducible exact impl_OuterArches.mono _ _)
      | (with_reducible exact impl_RainbowOf.mono _ _)
      | (with_reducible exact impl_SystemText.mono _ _)
      | (with_reducible exact impl_TurnSystem.mono _ _ _)
      | (with_reducible exact laws_sSame.mono _ _ _)
      | (with_reducible exact spec_CoverSystem.mono _ _)
      | (with_reducible exact spec_DrawCoverSystem.mono _ _)
      | (with_reducible exact spec_DrawJoinSystems.mono _ _)
      | (with_reducible exact spec_DrawTurnSystem.mono _ _)
      | (with_reducible exact spec_FlatOf.mono _ _)
      | (with_reducible exact spec_JoinSystems.mono _ _ _)
      | (with_reducible exact spec_MirrorSystem.mono _ _)
      | (with_reducible exact spec_RainbowOf.mono _ _)
      | (with_reducible exact spec_TurnSystem.mono _ _ _)
      | (with_reducible exact LeO.refl _)
      | (with_reducible exact LeO.none _)
      | (with_reducible refine LeO.ite ?_ ?_)
      | (with_reducible refine LeO.bind ?_ (fun _ => ?_))
      | exact LeO.none _
      | refine LeO.ite ?_ ?_
      | refine LeO.bind ?_ (fun _ => ?_)
    · intro y0 y1 y2 y3 y4 y5 y6 y7
      unfold laws_FnSystemsMoved.j6
      repeat' first
      | (with_reducible exact ih0 _ _ _ _ _ _ _)
      | (with_reducible exact ih1 _ _ _ _ _ _ _ _ _ _ _)
      | (with_reducible exact ih2 _ _ _ _ _ _)
      | (with_reducible exact ih3 _ _ _ _ _ _ _ _ _ _ _)
      | (with_reducible exact ih4 _ _ _ _ _ _ _ _)
      | (with_reducible exact ih5 _ _ _ _ _)
      | (with_reducible exact ih6 _ _ _ _ _ _ _ _)
      | (with_reducible exact ih7 _ _ _ _)
      | (with_reducible exact ih8 _ _ _ _ _ _)
      | (with_reducible exact ih9 _ _ _ _ _ _ _)
      | (with_reducible exact impl_CoverSystem.mono _ _)
      | (with_reducible exact impl_DepthsOf.mono _ _)
      | (with_reducible exact impl_FlatOf.mono _ _)
      | (with_reducible exact impl_IsSystem.mono _ _)
      | (with_reducible exact impl_JoinSystems.mono _ _ _)
      | (with_reducible exact impl_MirrorSystem.mono _ _)
      | (with_reducible exact impl_OuterArches.mono _ _)
      | (with_reducible exact impl_RainbowOf.mono _ _)
      | (with_reducible exact impl_SystemText.mono _ _)
      | (with_reducible exact impl_TurnSystem.mono _ _ _)
      | (with_reducible exact laws_sSame.mono _ _ _)
      | (with_reducible exact spec_CoverSystem.mono _ _)
      | (with_reducible exact spec_DrawCoverSystem.mono _ _)
      | (with_reducible exact spec_DrawJoinSystems.mono _ _)
      | (with_reducible exact spec_DrawTurnSystem.mono _ _)
      | (with_reducible exact spec_FlatOf.mono _ _)
      | (with_reducible exact spec_JoinSystems.mono _ _ _)
      | (with_reducible exact spec_MirrorSystem.mono _ _)
      | (with_reducible exact spec_RainbowOf.mono _ _)
      | (with_reducible exact spec_TurnSystem.mono _ _ _)
      | (with_reducible exact LeO.refl _)
      | (with_reducible exact LeO.none _)
      | (with_reducible refine LeO.ite ?_ ?_)
      | (with_reducible refine LeO.bind ?_ (fun _ => ?_))
      | exact LeO.none _
      | refine LeO.ite ?_ ?_
      | refine LeO.bind ?_ (fun _ => ?_)
    · intro y0 y1 y2 y3
      unfold laws_FnSystemsMoved.j9
      repeat' first
      | (with_reducible exact ih0 _ _ _ _ _ _ _)
      | (with_reducible exact ih1 _ _ _ _ _ _ _ _ _ _ _)
      | (with_reducible exact ih2 _ _ _ _ _ _)
      | (with_reducible exact ih3 _ _ _ _ _ _ _ _ _ _ _)
      | (with_reducible exact ih4 _ _ _ _ _ _ _ _)
      | (with_reducible exact ih5 _ _ _ _ _)
      | (with_reducible exact ih6 _ _ _ _ _ _ _ _)
      | (with_reducible exact ih7 _ _ _ _)
      | (with_reducible exact ih8 _ _ _ _ _ _)
      | (with_reducible exact ih9 _ _ _ _ _ _ _)
      | (with_reducible exact impl_CoverSystem.mono _ _)
      | (with_reducible exact impl_DepthsOf.mono _ _)
      | (with_reducible exact impl_FlatOf.mono _ _)
      | (with_reducible exact impl_IsSystem.mono _ _)
      | (with_reducible exact impl_JoinSystems.mono _ _ _)
      | (with_reducible exact impl_MirrorSystem.mono _ _)
      | (with_reducible exact impl_OuterArches.mono _ _)
      | (with_reducible exact impl_RainbowOf.mono _ _)
      | (with_reducible exact impl_SystemText.mono _ _)
      | (with_reducible exact impl_TurnSystem.mono _ _ _)
      | (with_reducible exact laws_sSame.mono _ _ _)
      | (with_reducible exact spec_CoverSystem.mono _ _)
      | (with_reducible exact spec_DrawCoverSystem.mono _ _)
      | (with_reducible exact spec_DrawJoinSystems.mono _ _)
      | (with_reducible exact spec_DrawTurnSystem.mono _ _)
      | (with_reducible exact spec_FlatOf.mono _ _)
      | (with_reducible exact spec_JoinSystems.mono _ _ _)
      | (with_reducible exact spec_MirrorSystem.mono _ _)
      | (with_reducible exact spec_RainbowOf.mono _ _)
      | (with_reducible exact spec_TurnSystem.mono _ _ _)
      | (with_reducible exact LeO.refl _)
      | (with_reducible exact LeO.none _)
      | (with_reducible refine LeO.ite ?_ ?_)
      | (with_reducible refine LeO.bind ?_ (fun _ => ?_))
      | exact LeO.none _
      | refine LeO.ite ?_ ?_
      | refine LeO.bind ?_ (fun _ => ?_)
    · intro y0 y1 y2 y3 y4 y5
      unfold laws_FnSystemsMoved.j7
      repeat' first
      | (with_reducible exact ih0 _ _ _ _ _ _ _)
      | (with_reducible exact ih1 _ _ _ _ _ _ _ _ _ _ _)
      | (with_reducible exact ih2 _ _ _ _ _ _)
      | (with_reducible exact ih3 _ _ _ _ _ _ _ _ _ _ _)
      | (with_reducible exact ih4 _ _ _ _ _ _ _ _)
      | (with_reducible exact ih5 _ _ _ _ _)
      | (with_reducible exact ih6 _ _ _ _ _ _ _ _)
      | (with_reducible exact ih7 _ _ _ _)
      | (with_reducible exact ih8 _ _ _ _ _ _)
      | (with_reducible exact ih9 _ _ _ _ _ _ _)
      | (with_reducible exact impl_CoverSystem.mono _ _)
      | (with_reducible exact impl_DepthsOf.mono _ _)
      | (with_reducible exact impl_FlatOf.mono _ _)
      | (with_reducible exact impl_IsSystem.mono _ _)
      | (with_reducible exact impl_JoinSystems.mono _ _ _)
      | (with_reducible exact impl_MirrorSystem.mono _ _)
      | (with_reducible exact impl_OuterArches.mono _ _)
      | (with_reducible exact impl_RainbowOf.mono _ _)
      | (with_reducible exact impl_SystemText.mono _ _)
      | (with_reducible exact impl_TurnSystem.mono _ _ _)
      | (with_reducible exact laws_sSame.mono _ _ _)
      | (with_reducible exact spec_CoverSystem.mono _ _)
      | (with_reducible exact spec_DrawCoverSystem.mono _ _)
      | (with_reducible exact spec_DrawJoinSystems.mono _ _)
      | (with_reducible exact spec_DrawTurnSystem.mono _ _)
      | (with_reducible exact spec_FlatOf.mono _ _)
      | (with_reducible exact spec_JoinSystems.mono _ _ _)
      | (with_reducible exact spec_MirrorSystem.mono _ _)
      | (with_reducible exact spec_RainbowOf.mono _ _)
      | (with_reducible exact spec_TurnSystem.mono _ _ _)
      | (with_reducible exact LeO.refl _)
      | (with_reducible exact LeO.none _)
      | (with_reducible refine LeO.ite ?_ ?_)
      | (with_reducible refine LeO.bind ?_ (fun _ => ?_))
      | exact LeO.none _
      | refine LeO.ite ?_ ?_
      | refine LeO.bind ?_ (fun _ => ?_)
    · intro y0 y1 y2 y3 y4 y5 y6
      unfold laws_FnSystemsMoved.l0
      repeat' first
      | (with_reducible exact ih0 _ _ _ _ _ _ _)
      | (with_reducible exact ih1 _ _ _ _ _ _ _ _ _ _ _)
      | (with_reducible exact ih2 _ _ _ _ _ _)
      | (with_reducible exact ih3 _ _ _ _ _ _ _ _ _ _ _)
      | (with_reducible exact ih4 _ _ _ _ _ _ _ _)
      | (with_reducible exact ih5 _ _ _ _ _)
      | (with_reducible exact ih6 _ _ _ _ _ _ _ _)
      | (with_reducible exact ih7 _ _ _ _)
      | (with_reducible exact ih8 _ _ _ _ _ _)
      | (with_reducible exact ih9 _ _ _ _ _ _ _)
      | (with_reducible exact impl_CoverSystem.mono _ _)
      | (with_reducible exact impl_DepthsOf.mono _ _)
      | (with_reducible exact impl_FlatOf.mono _ _)
      | (with_reducible exact impl_IsSystem.mono _ _)
      | (with_reducible exact impl_JoinSystems.mono _ _ _)
      | (with_reducible exact impl_MirrorSystem.mono _ _)
      | (with_reducible exact impl_OuterArches.mono _ _)
      | (with_reducible exact impl_RainbowOf.mono _ _)
      | (with_reducible exact impl_SystemText.mono _ _)
      | (with_reducible exact impl_TurnSystem.mono _ _ _)
      | (with_reducible exact laws_sSame.mono _ _ _)
      | (with_reducible exact spec_CoverSystem.mono _ _)
      | (with_reducible exact spec_DrawCoverSystem.mono _ _)
      | (with_reducible exact spec_DrawJoinSystems.mono _ _)
      | (with_reducible exact spec_DrawTurnSystem.mono _ _)
      | (with_reducible exact spec_FlatOf.mono _ _)
      | (with_reducible exact spec_JoinSystems.mono _ _ _)
      | (with_reducible exact spec_MirrorSystem.mono _ _)
      | (with_reducible exact spec_RainbowOf.mono _ _)
      | (with_reducible exact spec_TurnSystem.mono _ _ _)
      | (with_reducible exact LeO.refl _)
      | (with_reducible exact LeO.none _)
      | (with_reducible refine LeO.ite ?_ ?_)
      | (with_reducible refine LeO.bind ?_ (fun _ => ?_))
      | exact LeO.none _
      | refine LeO.ite ?_ ?_
      | refine LeO.bind ?_ (fun _ => ?_)
theorem laws_FnSystemsMoved.mono : ∀ a0 a1 k, LeO (laws_FnSystemsMoved.f k a0 a1) (laws_FnSystemsMoved.f (k + 1) a0 a1) := by
  intro a0 a1 k
  obtain ⟨ih0, ih1, ih2, ih3, ih4, ih5, ih6, ih7, ih8, ih9⟩ := laws_FnSystemsMoved.mono_l k
  unfold laws_FnSystemsMoved.f
  repeat' first
      | (with_reducible exact ih0 _ _ _ _ _ _ _)
      | (with_reducible exact ih1 _ _ _ _ _ _ _ _ _ _ _)
      | (with_reducible exact ih2 _ _ _ _ _ _)
      | (with_reducible exact ih3 _ _ _ _ _ _ _ _ _ _ _)
      | (with_reducible exact ih4 _ _ _ _ _ _ _ _)
      | (with_reducible exact ih5 _ _ _ _ _)
      | (with_reducible exact ih6 _ _ _ _ _ _ _ _)
      | (with_reducible exact ih7 _ _ _ _)
      | (with_reducible exact ih8 _ _ _ _ _ _)
      | (with_reducible exact ih9 _ _ _ _ _ _ _)
      | (with_reducible exact impl_CoverSystem.mono _ _)
      | (with_reducible exact impl_DepthsOf.mono _ _)
      | (with_reducible exact impl_FlatOf.mono _ _)
      | (with_reducible exact impl_IsSystem.mono _ _)
      | (with_reducible exact impl_JoinSystems.mono _ _ _)
      | (with_reducible exact impl_MirrorSystem.mono _ _)
      | (with_reducible exact impl_OuterArches.mono _ _)
      | (with_reducible exact impl_RainbowOf.mono _ _)
      | (with_reducible exact impl_SystemText.mono _ _)
      | (with_reducible exact impl_TurnSystem.mono _ _ _)
      | (with_reducible exact laws_sSame.mono _ _ _)
      | (with_reducible exact spec_CoverSystem.mono _ _)
      | (with_reducible exact spec_DrawCoverSystem.mono _ _)
      | (with_reducible exact spec_DrawJoinSystems.mono _ _)
      | (with_reducible exact spec_DrawTurnSystem.mono _ _)
      | (with_reducible exact spec_FlatOf.mono _ _)
      | (with_reducible exact spec_JoinSystems.mono _ _ _)
      | (with_reducible exact spec_MirrorSystem.mono _ _)
      | (with_reducible exact spec_RainbowOf.mono _ _)
      | (with_reducible exact spec_TurnSystem.mono _ _ _)
      | (with_reducible exact LeO.refl _)
      | (with_reducible exact LeO.none _)
      | (with_reducible refine LeO.ite ?_ ?_)
      | (with_reducible refine LeO.bind ?_ (fun _ => ?_))
      | exact LeO.none _
      | refine LeO.ite ?_ ?_
      | refine LeO.bind ?_ (fun _ => ?_)
theorem laws_FnSystemsMoved.j0_no : ∀ k y0 y1 y2 y3 y4 y5, ¬ laws_FnSystemsMoved.j0 k y0 y1 y2 y3 y4 y5 true = some true
  | 0, _, _, _, _, _, _ => by simp [laws_FnSystemsMoved.j0]
  | k + 1, _, _, _, _, _, _ => by simp [laws_FnSystemsMoved.j0]
theorem laws_FnSystemsMoved.j1_no : ∀ k y0 y1 y2 y3 y4 y5 y6 y7 y8 y9, ¬ laws_FnSystemsMoved.j1 k y0 y1 y2 y3 y4 y5 y6 y7 y8 y9 true = some true
  | 0, _, _, _, _, _, _, _, _, _, _ => by simp [laws_FnSystemsMoved.j1]
  | k + 1, _, _, _, _, _, _, _, _, _, _ => by simp [laws_FnSystemsMoved.j1]
theorem laws_FnSystemsMoved.j3_no : ∀ k y0 y1 y2 y3 y4 y5 y6 y7 y8 y9, ¬ laws_FnSystemsMoved.j3 k y0 y1 y2 y3 y4 y5 y6 y7 y8 y9 true = some true
  | 0, _, _, _, _, _, _, _, _, _, _ => by simp [laws_FnSystemsMoved.j3]
  | k + 1, _, _, _, _, _, _, _, _, _, _ => by simp [laws_FnSystemsMoved.j3]
theorem laws_FnSystemsMoved.j6_no : ∀ k y0 y1 y2 y3 y4 y5 y6, ¬ laws_FnSystemsMoved.j6 k y0 y1 y2 y3 y4 y5 y6 true = some true
  | 0, _, _, _, _, _, _, _ => by simp [laws_FnSystemsMoved.j6]
  | k + 1, _, _, _, _, _, _, _ => by simp [laws_FnSystemsMoved.j6]
theorem laws_FnSystemsMoved.j7_no : ∀ k y0 y1 y2 y3 y4, ¬ laws_FnSystemsMoved.j7 k y0 y1 y2 y3 y4 true = some true
  | 0, _, _, _, _, _ => by simp [laws_FnSystemsMoved.j7]
  | k + 1, _, _, _, _, _ => by simp [laws_FnSystemsMoved.j7]
def laws_FnSystemsMoved.left : Code → Option Nat
  | .seq a _ => laws_FnSystemsMoved.left a
  | .region m _ _ => some m
  | _ => none
def laws_FnSystemsMoved.findRest (n : Nat) : Code → Option Code
  | .seq a b => if laws_FnSystemsMoved.left a = some n then some (.seq a b) else match laws_FnSystemsMoved.findRest n a with
    | some c => some c
    | none => laws_FnSystemsMoved.findRest n b
  | .cond _ a b => match laws_FnSystemsMoved.findRest n a with
    | some c => some c
    | none => laws_FnSystemsMoved.findRest n b
  | .block _ c => laws_FnSystemsMoved.findRest n c
  | .loop c => laws_FnSystemsMoved.findRest n c
  | .scope c => laws_FnSystemsMoved.findRest n c
  | _ => none
def laws_FnSystemsMoved.findCond (n : Nat) : Code → Option Code
  | .seq a b => match laws_FnSystemsMoved.findCond n a with
    | some c => some c
    | none => laws_FnSystemsMoved.findCond n b
  | .cond c a b => match c with
    | .tmp m => if m = n then some (.cond (.tmp m) a b) else match laws_FnSystemsMoved.findCond n a with
      | some c => some c
      | none => laws_FnSystemsMoved.findCond n b
    | _ => match laws_FnSystemsMoved.findCond n a with
      | some c => some c
      | none => laws_FnSystemsMoved.findCond n b
  | .block _ c => laws_FnSystemsMoved.findCond n c
  | .loop c => laws_FnSystemsMoved.findCond n c
  | .scope c => laws_FnSystemsMoved.findCond n c
  | _ => none

end Go.Proofs.Ytonobgbpgeielaa.QFnSystemsMoved
