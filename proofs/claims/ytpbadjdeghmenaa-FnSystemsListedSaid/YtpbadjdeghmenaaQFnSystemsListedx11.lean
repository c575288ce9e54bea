-- Written by wip/myprint.py (a program of mine round the kit's printer). Lean checks it.
import Derived.Test.YtpbadjdeghmenaaQFnSystemsListedx0
import Derived.Test.YtpbadjdeghmenaaQFnSystemsListedx1
import Derived.Test.YtpbadjdeghmenaaQFnSystemsListedx3
import Derived.Test.YtpbadjdeghmenaaQFnSystemsListedx4
import Derived.Test.YtpbadjdeghmenaaQFnSystemsListedx5
import Derived.Test.YtpbadjdeghmenaaQFnSystemsListedx7
import Derived.Test.YtpbadjdeghmenaaQFnSystemsListedx8
import Derived.Test.YtpbadjdeghmenaaQFnSystemsListedx9
import Derived.Test.YtpbadjdeghmenaaQFnSystemsListedx10
namespace Go.Proofs.Ytpbadjdeghmenaa.QFnSystemsListed
open Go.RowKit Go.Proofs.YtpbadjdeghmenaaW.PrintWords Go.Proofs.YtpbadjdeghmenaaW.PrintLast Go.Proofs.YtpbadjdeghmenaaW.PrintMore
attribute [local go_sem] max2_int min2_int max_two min_two max_three min_three max_four min_four   -- for this text's walks alone
set_option linter.unusedVariables false
set_option linter.unusedSimpArgs false

theorem R2_ {d : Kd Int} {e : TypeId} {W w1 : World} {base : Nat} {ok ok1 ok2 : Nat → Prop} {u v0 v1 : Value} {xs y0 y1 : List Int} (hu : Kd.R d e W base ok u xs) (hb : Below W.heap.size W w1) (h0 : Kd.R d e w1 W.heap.size ok1 v0 y0) (h1 : Kd.R d e w1 W.heap.size ok2 v1 y1) :
    Kd.R d e w1 base (fun k => (ok k ∧ some k ≠ v0.ownBlock) ∧ some k ≠ v1.ownBlock) u xs :=
  Kd.R_mono (Kd.R_told (Kd.R_told (Kd.R_old hu hb) (Kd.R_base h0)) (Kd.R_base h1)) (fun _ h_ => h_.1)
/-! ### laws_FnSystemsListed: function 3 -/
mutual
def laws_FnSystemsListed.j0 : Nat → List Int → List Int → Int → Int → List Int → Bool → Bool → Option (Bool)
  | 0, _, _, _, _, _, _, _ => none
  | k + 1, x0, x1, x5, x6, x7, x10, x108 => if x108 = true then (some false) else ((spec_DrawAllSystems.f x1).bind fun t494 => ((impl_AllSystems.f k t494).bind fun bt495 => ((spec_AllSystems.f k t494).bind fun bt499 => (if (bt495.2 != bt499.2) = true then (laws_FnSystemsListed.j1 k x0 x1 x5 x6 x7 x10 t494 bt495.1 bt495.2 true) else ((laws_sSameRows.f k bt495.1 bt499.1).bind fun t503 => (laws_FnSystemsListed.j1 k x0 x1 x5 x6 x7 x10 t494 bt495.1 bt495.2 (!t503)))))))
def laws_FnSystemsListed.j1 : Nat → List Int → List Int → Int → Int → List Int → Bool → Int → List (List Int) → Bool → Bool → Option (Bool)
  | 0, _, _, _, _, _, _, _, _, _, _ => none
  | k + 1, x0, x1, x5, x6, x7, x10, x15, x16, x17, x129 => if x129 = true then (some false) else (laws_FnSystemsListed.l0 k x0 x1 x5 x6 x7 x10 x15 x16 x17 x16 (x16.length : Int) 0)
def laws_FnSystemsListed.l0 : Nat → List Int → List Int → Int → Int → List Int → Bool → Int → List (List Int) → Bool → List (List Int) → Int → Int → Option (Bool)
  | 0, _, _, _, _, _, _, _, _, _, _, _, _ => none
  | k + 1, x0, x1, x5, x6, x7, x10, x15, x16, x17, x130, x131, x132 => if x132 < x131 then (if 0 ≤ x132 then (if x132 < (x130.length : Int) then ((impl_IsSystem.f k (rd_L2 x130 x132)).bind fun t505 => (if t505 = true then (if ((rd_L2 x130 x132).length : Int) = (wrap64 (2 * x15)) then (if x132 > 0 then (if 0 ≤ (wrap64 (x132 - 1)) then (if (wrap64 (x132 - 1)) < (x16.length : Int) then ((laws_sLess.f k (rd_L2 x16 (wrap64 (x132 - 1))) (rd_L2 x130 x132)).bind fun t507 => (if t507 = true then (laws_FnSystemsListed.l0 k x0 x1 x5 x6 x7 x10 x15 x16 x17 x130 x131 (wrap64 (x132 + 1))) else (some false))) else (none)) else (none)) else (laws_FnSystemsListed.l0 k x0 x1 x5 x6 x7 x10 x15 x16 x17 x130 x131 (wrap64 (x132 + 1)))) else (some false)) else (some false))) else (none)) else (none)) else (if x17 = true then ((impl_CountSystems.f k x15).bind fun bt508 => (if bt508.2 = true then (if bt508.1 = (x16.length : Int) then (laws_FnSystemsListed.j3 k x0 x1 x5 x6 x7 x10) else (some false)) else (some false))) else (laws_FnSystemsListed.j3 k x0 x1 x5 x6 x7 x10))
def laws_FnSystemsListed.j3 : Nat → List Int → List Int → Int → Int → List Int → Bool → Option (Bool)
  | 0, _, _, _, _, _, _ => none
  | k + 1, x0, x1, x5, x6, x7, x10 => (spec_DrawParseSystem.f k x1).bind fun t510 => ((impl_ParseSystem.f k t510).bind fun bt511 => ((spec_ParseSystem.f k t510).bind fun bt515 => (if (bt511.2 != bt515.2) = true then (laws_FnSystemsListed.j4 k x0 x5 x6 x7 x10 t510 bt511.1 bt511.2 true) else ((laws_sSame.f k bt511.1 bt515.1).bind fun t519 => (laws_FnSystemsListed.j4 k x0 x5 x6 x7 x10 t510 bt511.1 bt511.2 (!t519))))))
def laws_FnSystemsListed.j4 : Nat → List Int → Int → Int → List Int → Bool → ByteArray → List Int → Bool → Bool → Option (Bool)
  | 0, _, _, _, _, _, _, _, _, _ => none
  | k + 1, x0, x5, x6, x7, x10, x24, x25, x26, x196 => if x196 = true then (some false) else (if x26 = true then ((impl_SystemText.f k x25).bind fun bt520 => (if bt520.2 = true then (if bt520.1.toList = x24.toList then (laws_FnSystemsListed.j5 k x0 x5 x6 x7 x10) else (some false)) else (some false))) else (laws_FnSystemsListed.j5 k x0 x5 x6 x7 x10))
def laws_FnSystemsListed.j5 : Nat → List Int → Int → Int → List Int → Bool → Option (Bool)
  | 0, _, _, _, _, _ => none
  | k + 1, x0, x5, x6, x7, x10 => (spec_DrawNextSystem.f k x0).bind fun t522 => ((impl_NextSystem.f k t522).bind fun bt525 => ((spec_NextSystem.f k t522).bind fun bt529 => (if (bt525.2 != bt529.2) = true then (laws_FnSystemsListed.j6 k x5 x6 x7 x10 true) else ((laws_sSame.f k bt525.1 bt529.1).bind fun t533 => (laws_FnSystemsListed.j6 k x5 x6 x7 x10 (!t533))))))
def laws_FnSystemsListed.j6 : Nat → Int → Int → List Int → Bool → Bool → Option (Bool)
  | 0, _, _, _, _, _ => none
  | k + 1, x5, x6, x7, x10, x230 => if x230 = true then (some false) else (if x10 = true then ((impl_RankSystem.f k x7).bind fun bt534 => ((impl_NextSystem.f k x7).bind fun bt536 => ((impl_SystemWith.f k x5 (wrap64 (x6 + 1))).bind fun bt540 => ((impl_SystemText.f k x7).bind fun bt544 => ((impl_ParseSystem.f k bt544.1).bind fun bt546 => (if bt534.2 = true then (if bt534.1 = x6 then (if (bt536.2 == bt540.2) = true then ((laws_sSame.f k bt536.1 bt540.1).bind fun t550 => (if t550 = true then (if bt544.2 = true then (if bt546.2 = true then ((laws_sSame.f k bt546.1 x7).bind fun t551 => (some t551)) else (some false)) else (some false)) else (some false))) else (some false)) else (some false)) else (some false))))))) else (some true))
end
def laws_FnSystemsListed.f (k : Nat) (l0 : List Int) (l1 : List Int) : Option (Bool) := (laws_big.f l0 l1).bind fun t478 => (if t478 = true then (some true) else ((spec_DrawSystemWith.f k l0).bind fun bt479 => ((impl_SystemWith.f k bt479.1 bt479.2).bind fun bt481 => ((spec_SystemWith.f k bt479.1 bt479.2).bind fun bt485 => ((impl_CountSystems.f k bt479.1).bind fun bt489 => ((spec_CountSystems.f k bt479.1).bind fun bt491 => (if (bt481.2 != bt485.2) = true then (laws_FnSystemsListed.j0 k l0 l1 bt479.1 bt479.2 bt481.1 bt485.2 true) else ((laws_sSame.f k bt481.1 bt485.1).bind fun t493 => (if t493 = true then (if (bt489.2 != bt491.2) = true then (laws_FnSystemsListed.j0 k l0 l1 bt479.1 bt479.2 bt481.1 bt485.2 true) else (if bt489.1 = bt491.1 then (if bt489.2 = true then (if bt479.2 ≥ 0 then (laws_FnSystemsListed.j0 k l0 l1 bt479.1 bt479.2 bt481.1 bt485.2 (bt481.2 != (decide (bt479.2 < bt489.1)))) else (laws_FnSystemsListed.j0 k l0 l1 bt479.1 bt479.2 bt481.1 bt485.2 (bt481.2 != false))) else (laws_FnSystemsListed.j0 k l0 l1 bt479.1 bt479.2 bt481.1 bt485.2 (bt481.2 != false))) else (laws_FnSystemsListed.j0 k l0 l1 bt479.1 bt479.2 bt481.1 bt485.2 true))) else (laws_FnSystemsListed.j0 k l0 l1 bt479.1 bt479.2 bt481.1 bt485.2 true))))))))))
theorem laws_FnSystemsListed.mono_l : ∀ k, (∀ y0 y1 y2 y3 y4 y5 y6, LeO (laws_FnSystemsListed.j0 k y0 y1 y2 y3 y4 y5 y6) (laws_FnSystemsListed.j0 (k + 1) y0 y1 y2 y3 y4 y5 y6)) ∧ (∀ y0 y1 y2 y3 y4 y5 y6 y7 y8 y9, LeO (laws_FnSystemsListed.j1 k y0 y1 y2 y3 y4 y5 y6 y7 y8 y9) (laws_FnSystemsListed.j1 (k + 1) y0 y1 y2 y3 y4 y5 y6 y7 y8 y9)) ∧ (∀ y0 y1 y2 y3 y4 y5 y6 y7 y8 y9 y10 y11, LeO (laws_FnSystemsListed.l0 k y0 y1 y2 y3 y4 y5 y6 y7 y8 y9 y10 y11) (laws_FnSystemsListed.l0 (k + 1) y0 y1 y2 y3 y4 y5 y6 y7 y8 y9 y10 y11)) ∧ (∀ y0 y1 y2 y3 y4 y5, LeO (laws_FnSystemsListed.j3 k y0 y1 y2 y3 y4 y5) (laws_FnSystemsListed.j3 (k + 1) y0 y1 y2 y3 y4 y5)) ∧ (∀ y0 y1 y2 y3 y4 y5 y6 y7 y8, LeO (laws_FnSystemsListed.j4 k y0 y1 y2 y3 y4 y5 y6 y7 y8) (laws_FnSystemsListed.j4 (k + 1) y0 y1 y2 y3 y4 y5 y6 y7 y8)) ∧ (∀ y0 y1 y2 y3 y4, LeO (laws_FnSystemsListed.j5 k y0 y1 y2 y3 y4) (laws_FnSystemsListed.j5 (k + 1) y0 y1 y2 y3 y4)) ∧ (∀ y0 y1 y2 y3 y4, LeO (laws_FnSystemsListed.j6 k y0 y1 y2 y3 y4) (laws_FnSystemsListed.j6 (k + 1) y0 y1 y2 y3 y4))
  | 0 => ⟨fun _ _ _ _ _ _ _ r h => by simp [laws_FnSystemsListed.j0] at h, fun _ _ _ _ _ _ _ _ _ _ r h => by simp [laws_FnSystemsListed.j1] at h, fun _ _ _ _ _ _ _ _ _ _ _ _ r h => by simp [laws_FnSystemsListed.l0] at h, fun _ _ _ _ _ _ r h => by simp [laws_FnSystemsListed.j3] at h, fun _ _ _ _ _ _ _ _ _ r h => by simp [laws_FnSystemsListed.j4] at h, fun _ _ _ _ _ r h => by simp [laws_FnSystemsListed.j5] at h, fun _ _ _ _ _ r h => by simp [laws_FnSystemsListed.j6] at h⟩
  | k + 1 => by
    obtain ⟨ih0, ih1, ih2, ih3, ih4, ih5, ih6⟩ := laws_FnSystemsListed.mono_l k
    refine ⟨?_, ?_, ?_, ?_, ?_, ?_, ?_⟩
    · intro y0 y1 y2 y3 y4 y5 y6
      unfold laws_FnSystemsListed.j0
      repeat' first
      | (with_reducible exact ih0 _ _ _ _ _ _ _)
      | (with_reducible exact ih1 _ _ _ _ _ _ _ _ _ _)
      | (with_reducible exact ih2 _ _ _ _ _ _ _ _ _ _ _ _)
      | (with_reducible exact ih3 _ _ _ _ _ _)
      | (with_reducible exact ih4 _ _ _ _ _ _ _ _ _)
      | (with_reducible exact ih5 _ _ _ _ _)
      | (with_reducible exact ih6 _ _ _ _ _)
      | (with_reducible exact impl_AllSystems.mono _ _)
      | (with_reducible exact impl_CountSystems.mono _ _)
      | (with_reducible exact impl_IsSystem.mono _ _)
      | (with_reducible exact impl_NextSystem.mono _ _)
      | (with_reducible exact impl_ParseSystem.mono _ _)
      | (with_reducible exact impl_RankSystem.mono _ _)
      | (with_reducible exact impl_SystemText.mono _ _)
      | (with_reducible exact impl_SystemWith.mono _ _ _)
      | (with_reducible exact laws_sLess.mono _ _ _)
      | (with_reducible exact laws_sSame.mono _ _ _)
      | (with_reducible exact laws_sSameRows.mono _ _ _)
      | (with_reducible exact spec_AllSystems.mono _ _)
      | (with_reducible exact spec_CountSystems.mono _ _)
      | (with_reducible exact spec_DrawNextSystem.mono _ _)
      | (with_reducible exact spec_DrawParseSystem.mono _ _)
      | (with_reducible exact spec_DrawSystemWith.mono _ _)
      | (with_reducible exact spec_NextSystem.mono _ _)
      | (with_reducible exact spec_ParseSystem.mono _ _)
      | (with_reducible exact spec_SystemWith.mono _ _ _)
      | (with_reducible exact LeO.refl _)
      | (with_reducible exact LeO.none _)
      | (with_reducible refine LeO.ite ?_ ?_)
      | (with_reducible refine LeO.bind ?_ (fun _ => ?_))
      | exact LeO.none _
      | refine LeO.ite ?_ ?_
      | refine LeO.bind ?_ (fun _ => ?_)
    · intro y0 y1 y2 y3 y4 y5 y6 y7 y8 y9
      unfold laws_FnSystemsListed.j1
      repeat' first
      | (with_reducible exact ih0 _ _ _ _ _ _ _)
      | (with_reducible exact ih1 _ _ _ _ _ _ _ _ _ _)
      | (with_reducible exact ih2 _ _ _ _ _ _ _ _ _ _ _ _)
      | (with_reducible exact ih3 _ _ _ _ _ _)
      | (with_reducible exact ih4 _ _ _ _ _ _ _ _ _)
      | (with_reducible exact ih5 _ _ _ _ _)
      | (with_reducible exact ih6 _ _ _ _ _)
      | (with_reducible exact impl_AllSystems.mono _ _)
      | (with_reducible exact impl_CountSystems.mono _ _)
      | (with_reducible exact impl_IsSystem.mono _ _)
      | (with_reducible exact impl_NextSystem.mono _ _)
      | (with_reducible exact impl_ParseSystem.mono _ _)
      | (with_reducible exact impl_RankSystem.mono _ _)
      | (with_reducible exact impl_SystemText.mono _ _)
      | (with_reducible exact impl_SystemWith.mono _ _ _)
      | (with_reducible exact laws_sLess.mono _ _ _)
      | (with_reducible exact laws_sSame.mono _ _ _)
      | (with_reducible exact laws_sSameRows.mono _ _ _)
      | (with_reducible exact spec_AllSystems.mono _ _)
      | (with_reducible exact spec_CountSystems.mono _ _)
      | (with_reducible exact spec_DrawNextSystem.mono _ _)
      | (with_reducible exact spec_DrawParseSystem.mono _ _)
      | (with_reducible exact spec_DrawSystemWith.mono _ _)
      | (with_reducible exact spec_NextSystem.mono _ _)
      | (with_reducible exact spec_ParseSystem.mono _ _)
      | (with_reducible exact spec_SystemWith.mono _ _ _)
      | (with_reducible exact LeO.refl _)
      | (with_reducible exact LeO.none _)
      | (with_reducible refine LeO.ite ?_ ?_)
      | (with_reducible refine LeO.bind ?_ (fun _ => ?_))
      | exact LeO.none _
      | refine LeO.ite ?_ ?_
      | refine LeO.bind ?_ (fun _ => ?_)
    · intro y0 y1 y2 y3 y4 y5 y6 y7 y8 y9 y10 y11
      unfold laws_FnSystemsListed.l0
      repeat' first
      | (with_reducible exact ih0 _ _ _ _ _ _ _)
      | (with_reducible exact ih1 _ _ _ _ _ _ _ _ _ _)
      | (with_reducible exact ih2 _ _ _ _ _ _ _ _ _ _ _ _)
      | (with_reducible exact ih3 _ _ _ _ _ _)
      | (with_reducible exact ih4 _ _ _ _ _ _ _ _ _)
      | (with_reducible exact ih5 _ _ _ _ _)
      | (with_reducible exact ih6 _ _ _ _ _)
      | (with_reducible exact impl_AllSystems.mono _ _)
      | (with_reducible exact impl_CountSystems.mono _ _)
      | (with_reducible exact impl_IsSystem.mono _ _)
      | (with_reducible exact impl_NextSystem.mono _ _)
      | (with_reducible exact impl_ParseSystem.mono _ _)
      | (with_reducible exact impl_RankSystem.mono _ _)
      | (with_reducible exact impl_SystemText.mono _ _)
      | (with_reducible exact impl_SystemWith.mono _ _ _)
      | (with_reducible exact laws_sLess.mono _ _ _)
      | (with_reducible exact laws_sSame.mono _ _ _)
      | (with_reducible exact laws_sSameRows.mono _ _ _)
      | (with_reducible exact spec_AllSystems.mono _ _)
      | (with_reducible exact spec_CountSystems.mono _ _)
      | (with_reducible exact spec_DrawNextSystem.mono _ _)
      | (with_reducible exact spec_DrawParseSystem.mono _ _)
      | (with_reducible exact spec_DrawSystemWith.mono _ _)
      | (with_reducible exact spec_NextSystem.mono _ _)
      | (with_reducible exact spec_ParseSystem.mono _ _)
      | (with_reducible exact spec_SystemWith.mono _ _ _)
      | (with_reducible exact LeO.refl _)
      | (with_reducible exact LeO.none _)
      | (with_reducible refine LeO.ite ?_ ?_)
      | (with_reducible refine LeO.bind ?_ (fun _ => ?_))
      | exact LeO.none _
      | refine LeO.ite ?_ ?_
      | refine LeO.bind ?_ (fun _ => ?_)
    · intro y0 y1 y2 y3 y4 y5
      unfold laws_FnSystemsListed.j3
      repeat' first
      | (with_reducible exact ih0 _ _ _ _ _ _ _)
      | (with_reducible exact ih1 _ _ _ _ _ _ _ _ _ _)
      | (with_reducible exact ih2 _ _ _ _ _ _ _ _ _ _ _ _)
      | (with_reducible exact ih3 _ _ _ _ _ _)
      | (with_reducible exact ih4 _ _ _ _ _ _ _ _ _)
      | (with_reducible exact ih5 _ _ _ _ _)
      | (with_reducible exact ih6 _ _ _ _ _)
      | (with_reducible exact impl_AllSystems.mono _ _)
      | (with_reducible exact impl_CountSystems.mono _ _)
      | (with_reducible exact impl_IsSystem.mono _ _)
      | (with_reducible exact impl_NextSystem.mono _ _)
      | (with_reducible exact impl_ParseSystem.mono _ _)
      | (with_reducible exact impl_RankSystem.mono _ _)
      | (with_reducible exact impl_SystemText.mono _ _)
      | (with_reducible exact impl_SystemWith.mono _ _ _)
      | (with_reducible exact laws_sLess.mono _ _ _)
      | (with_reducible exact laws_sSame.mono _ _ _)
      | (with_reducible exact laws_sSameRows.mono _ _ _)
      | (with_reducible exact spec_AllSystems.mono _ _)
      | (with_reducible exact spec_CountSystems.mono _ _)
      | (with_reducible exact spec_DrawNextSystem.mono _ _)
      | (with_reducible exact spec_DrawParseSystem.mono _ _)
      | (with_reducible exact spec_DrawSystemWith.mono _ _)
      | (with_reducible exact spec_NextSystem.mono _ _)
      | (with_reducible exact spec_ParseSystem.mono _ _)
      | (with_reducible exact spec_SystemWith.mono _ _ _)
      | (with_reducible exact LeO.refl _)
      | (with_reducible exact LeO.none _)
      | (with_reducible refine LeO.ite ?_ ?_)
      | (with_reducible refine LeO.bind ?_ (fun _ => ?_))
      | exact LeO.none _
      | refine LeO.ite ?_ ?_
      | refine LeO.bind ?_ (fun _ => ?_)
    · intro y0 y1 y2 y3 y4 y5 y6 y7 y8
      unfold laws_FnSystemsListed.j4
      repeat' first
      | (with_reducible exact ih0 _ _ _ _ _ _ _)
      | (with_reducible exact ih1 _ _ _ _ _ _ _ _ _ _)
      | (with_reducible exact ih2 _ _ _ _ _ _ _ _ _ _ _ _)
      | (with_reducible exact ih3 _ _ _ _ _ _)
      | (with_reducible exact ih4 _ _ _ _ _ _ _ _ _)
      | (with_reducible exact ih5 _ _ _ _ _)
      | (with_reducible exact ih6 _ _ _ _ _)
      | (with_reducible exact impl_AllSystems.mono _ _)
      | (with_reducible exact impl_CountSystems.mono _ _)
      | (with_reducible exact impl_IsSystem.mono _ _)
      | (with_reducible exact impl_NextSystem.mono _ _)
      | (with_reducible exact impl_ParseSystem.mono _ _)
      | (with_reducible exact impl_RankSystem.mono _ _)
      | (with_reducible exact impl_SystemText.mono _ _)
      | (with_reducible exact impl_SystemWith.mono _ _ _)
      | (with_reducible exact laws_sLess.mono _ _ _)
      | (with_reducible exact laws_sSame.mono _ _ _)
      | (with_reducible exact laws_sSameRows.mono _ _ _)
      | (with_reducible exact spec_AllSystems.mono _ _)
      | (with_reducible exact spec_CountSystems.mono _ _)
      | (with_reducible exact spec_DrawNextSystem.mono _ _)
      | (with_reducible exact spec_DrawParseSystem.mono _ _)
      | (with_reducible exact spec_DrawSystemWith.mono _ _)
      | (with_reducible exact spec_NextSystem.mono _ _)
      | (with_reducible exact spec_ParseSystem.mono _ _)
      | (with_reducible exact spec_SystemWith.mono _ _ _)
      | (with_reducible exact LeO.refl _)
      | (with_reducible exact LeO.none _)
      | (with_reducible refine LeO.ite ?_ ?_)
      | (with_reducible refine LeO.bind ?_ (fun _ => ?_))
      | exact LeO.none _
      | refine LeO.ite ?_ ?_
      | refine LeO.bind ?_ (fun _ => ?_)
    · intro y0 y1 y2 y3 y4
      unfold laws_FnSystemsListed.j5
      repeat' first
      | (with_reducible exact ih0 _ _ _ _ _ _ _)
      | (with_reducible exact ih1 _ _ _ _ _ _ _ _ _ _)
      | (with_reducible exact ih2 _ _ _ _ _ _ _ _ _ _ _ _)
      | (with_reducible exact ih3 _ _ _ _ _ _)
      | (with_reducible exact ih4 _ _ _ _ _ _ _ _ _)
      | (with_reducible exact ih5 _ _ _ _ _)
      | (with_reducible exact ih6 _ _ _ _ _)
      | (with_reducible exact impl_AllSystems.mono _ _)
      | (with_reducible exact impl_CountSystems.mono _ _)
      | (with_reducible exact impl_IsSystem.mono _ _)
      | (with_reducible exact impl_NextSystem.mono _ _)
      | (with_reducible exact impl_ParseSystem.mono _ _)
      | (with_reducible exact impl_RankSystem.mono _ _)
      | (with_reducible exact impl_SystemText.mono _ _)
      | (with_reducible exact impl_SystemWith.mono _ _ _)
      | (with_reducible exact laws_sLess.mono _ _ _)
      | (with_reducible exact laws_sSame.mono _ _ _)
      | (with_reducible exact laws_sSameRows.mono _ _ _)
      | (with_reducible exact spec_AllSystems.mono _ _)
      | (with_reducible exact spec_CountSystems.mono _ _)
      | (with_reducible exact spec_DrawNextSystem.mono _ _)
      | (with_reducible exact spec_DrawParseSystem.mono _ _)
      | (with_reducible exact spec_DrawSystemWith.mono _ _)
      | (with_reducible exact spec_NextSystem.mono _ _)
      | (with_reducible exact spec_ParseSystem.mono _ _)
      | (with_reducible exact spec_SystemWith.mono _ _ _)
      | (with_reducible exact LeO.refl _)
      | (with_reducible exact LeO.none _)
      | (with_reducible refine LeO.ite ?_ ?_)
      | (with_reducible refine LeO.bind ?_ (fun _ => ?_))
      | exact LeO.none _
      | refine LeO.ite ?_ ?_
      | refine LeO.bind ?_ (fun _ => ?_)
    · intro y0 y1 y2 y3 y4
      unfold laws_FnSystemsListed.j6
      repeat' first
      | (with_reducible exact ih0 _ _ _ _ _ _ _)
      | (with_reducible exact ih1 _ _ _ _ _ _ _ _ _ _)
      | (with_reducible exact ih2 _ _ _ _ _ _ _ _ _ _ _ _)
      | (with_reducible exact ih3 _ _ _ _ _ _)
      | (with_reducible exact ih4 _ _ _ _ _ _ _ _ _)
      | (with_reducible exact ih5 _ _ _ _ _)
      | (with_reducible exact ih6 _ _ _ _ _)
      | (with_reducible exact impl_AllSystems.mono _ _)
      | (with_reducible exact impl_CountSystems.mono _ _)
      | (with_reducible exact impl_IsSystem.mono _ _)
      | (with_reducible exact impl_NextSystem.mono _ _)
      | (with_reducible exact impl_ParseSystem.mono _ _)
      | (with_reducible exact impl_RankSystem.mono _ _)
      | (with_reducible exact impl_SystemText.mono _ _)
      | (with_reducible exact impl_SystemWith.mono _ _ _)
      | (with_reducible exact laws_sLess.mono _ _ _)
      | (with_reducible exact laws_sSame.mono _ _ _)
      | (with_reducible exact laws_sSameRows.mono _ _ _)
      | (with_reducible exact spec_AllSystems.mono _ _)
      | (with_reducible exact spec_CountSystems.mono _ _)
      | (with_reducible exact spec_DrawNextSystem.mono _ _)
      | (with_reducible exact spec_DrawParseSystem.mono _ _)
      | (with_reducible exact spec_DrawSystemWith.mono _ _)
      | (with_reducible exact spec_NextSystem.mono _ _)
      | (with_reducible exact spec_ParseSystem.mono _ _)
      | (with_reducible exact spec_SystemWith.mono _ _ _)
      | (with_reducible exact LeO.refl _)
      | (with_reducible exact LeO.none _)
      | (with_reducible refine LeO.ite ?_ ?_)
      | (with_reducible refine LeO.bind ?_ (fun _ => ?_))
      | exact LeO.none _
      | refine LeO.ite ?_ ?_
      | refine LeO.bind ?_ (fun _ => ?_)
theorem laws_FnSystemsListed.mono : ∀ a0 a1 k, LeO (laws_FnSystemsListed.f k a0 a1) (laws_FnSystemsListed.f (k + 1) a0 a1) := by
  intro a0 a1 k
  obtain ⟨ih0, ih1, ih2, ih3, ih4, ih5, ih6⟩ := laws_FnSystemsListed.mono_l k
  unfold laws_FnSystemsListed.f
  repeat' first
      | (with_reducible exact ih0 _ _ _ _ _ _ _)
      | (with_reducible exact ih1 _ _ _ _ _ _ _ _ _ _)
      | (with_reducible exact ih2 _ _ _ _ _ _ _ _ _ _ _ _)
      | (with_reducible exact ih3 _ _ _ _ _ _)
      | (with_reducible exact ih4 _ _ _ _ _ _ _ _ _)
      | (with_reducible exact ih5 _ _ _ _ _)
      | (with_reducible exact ih6 _ _ _ _ _)
      | (with_reducible exact impl_AllSystems.mono _ _)
      | (with_reducible exact impl_CountSystems.mono _ _)
      | (with_reducible exact impl_IsSystem.mono _ _)
      | (with_reducible exact impl_NextSystem.mono _ _)
      | (with_reducible exact impl_ParseSystem.mono _ _)
      | (with_reducible exact impl_RankSystem.mono _ _)
      | (with_reducible exact impl_SystemText.mono _ _)
      | (with_reducible exact impl_SystemWith.mono _ _ _)
      | (with_reducible exact laws_sLess.mono _ _ _)
      | (with_reducible exact laws_sSame.mono _ _ _)
      | (with_reducible exact laws_sSameRows.mono _ _ _)
      | (with_reducible exact spec_AllSystems.mono _ _)
      | (with_reducible exact spec_CountSystems.mono _ _)
      | (with_reducible exact spec_DrawNextSystem.mono _ _)
      | (with_reducible exact spec_DrawParseSystem.mono _ _)
      | (with_reducible exact spec_DrawSystemWith.mono _ _)
      | (with_reducible exact spec_NextSystem.mono _ _)
      | (with_reducible exact spec_ParseSystem.mono _ _)
      | (with_reducible exact spec_SystemWith.mono _ _ _)
      | (with_reducible exact LeO.refl _)
      | (with_reducible exact LeO.none _)
      | (with_reducible refine LeO.ite ?_ ?_)
      | (with_reducible refine LeO.bind ?_ (fun _ => ?_))
      | exact LeO.none _
      | refine LeO.ite ?_ ?_
      | refine LeO.bind ?_ (fun _ => ?_)
theorem laws_FnSystemsListed.j0_no : ∀ k y0 y1 y2 y3 y4 y5, ¬ laws_FnSystemsListed.j0 k y0 y1 y2 y3 y4 y5 true = some true
  | 0, _, _, _, _, _, _ => by simp [laws_FnSystemsListed.j0]
  | k + 1, _, _, _, _, _, _ => by simp [laws_FnSystemsListed.j0]
theorem laws_FnSystemsListed.j1_no : ∀ k y0 y1 y2 y3 y4 y5 y6 y7 y8, ¬ laws_FnSystemsListed.j1 k y0 y1 y2 y3 y4 y5 y6 y7 y8 true = some true
  | 0, _, _, _, _, _, _, _, _, _ => by simp [laws_FnSystemsListed.j1]
  | k + 1, _, _, _, _, _, _, _, _, _ => by simp [laws_FnSystemsListed.j1]
theorem laws_FnSystemsListed.j4_no : ∀ k y0 y1 y2 y3 y4 y5 y6 y7, ¬ laws_FnSystemsListed.j4 k y0 y1 y2 y3 y4 y5 y6 y7 true = some true
  | 0, _, _, _, _, _, _, _, _ => by simp [laws_FnSystemsListed.j4]
  | k + 1, _, _, _, _, _, _, _, _ => by simp [laws_FnSystemsListed.j4]
theorem laws_FnSystemsListed.j6_no : ∀ k y0 y1 y2 y3, ¬ laws_FnSystemsListed.j6 k y0 y1 y2 y3 true = some true
  | 0, _, _, _, _ => by simp [laws_FnSystemsListed.j6]
  | k + 1, _, _, _, _ => by simp [laws_FnSystemsListed.j6]
def laws_FnSystemsListed.left : Code → Option Nat
  | .seq a _ => laws_FnSystemsListed.left a
  | .region m _ _ => some m
  | _ => none
def laws_FnSystemsListed.findRest (n : Nat) : Code → Option Code
  | .seq a b => if laws_FnSystemsListed.left a = some n then some (.seq a b) else match laws_FnSystemsListed.findRest n a with
    | some c => some c
    | none => laws_FnSystemsListed.findRest n b
  | .cond _ a b => match laws_FnSystemsListed.findRest n a with
    | some c => some c
    | none => laws_FnSystemsListed.findRest n b
  | .block _ c => laws_FnSystemsListed.findRest n c
  | .loop c => laws_FnSystemsListed.findRest n c
  | .scope c => laws_FnSystemsListed.findRest n c
  | _ => none
def laws_FnSystemsListed.findCond (n : Nat) : Code → Option Code
  | .seq a b => match laws_FnSystemsListed.findCond n a with
    | some c => some c
    | none => laws_FnSystemsListed.findCond n b
  | .cond c a b => match c with
    | .tmp m => if m = n then some (.cond (.tmp m) a b) else match laws_FnSystemsListed.findCond n a with
      | some c => some c
      | none => laws_FnSystemsListed.findCond n b
    | _ => match laws_FnSystemsListed.findCond n a with
      | some c => some c
      | none => laws_FnSystemsListed.findCond n b
  | .block _ c => laws_FnSystemsListed.findCond n c
  | .loop c => laws_FnSystemsListed.findCond n c
  | .scope c => laws_FnSystemsListed.findCond n c
  | _ => none

end Go.Proofs.Ytpbadjdeghmenaa.QFnSystemsListed
