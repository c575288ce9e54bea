-- Written by wip/myprint.py (a program of mine round the kit's printer). Lean checks it.
import Derived.Test.YtfencncopkeobaaQFnComponentsWalkedx0
import Derived.Test.YtfencncopkeobaaQFnComponentsWalkedx1
import Derived.Test.YtfencncopkeobaaQFnComponentsWalkedx2
import Derived.Test.YtfencncopkeobaaQFnComponentsWalkedx3
import Derived.Test.YtfencncopkeobaaQFnComponentsWalkedx4
import Derived.Test.YtfencncopkeobaaQFnComponentsWalkedx6
import Derived.Test.YtfencncopkeobaaQFnComponentsWalkedx7
import Derived.Test.YtfencncopkeobaaQFnComponentsWalkedx8
namespace Go.Proofs.Ytfencncopkeobaa.QFnComponentsWalked
open Go.RowKit Go.Proofs.YtfencncopkeobaaW.PrintWords Go.Proofs.YtfencncopkeobaaW.PrintLast Go.Proofs.YtfencncopkeobaaW.PrintMore
attribute [local go_sem] max2_int min2_int max_two min_two max_three min_three max_four min_four   -- for this text's walks alone
set_option linter.unusedVariables false
set_option linter.unusedSimpArgs false

theorem R2_ {d : Kd Int} {e : TypeId} {W w1 : World} {base : Nat} {ok ok1 ok2 : Nat → Prop} {u v0 v1 : Value} {xs y0 y1 : List Int} (hu : Kd.R d e W base ok u xs) (hb : Below W.heap.size W w1) (h0 : Kd.R d e w1 W.heap.size ok1 v0 y0) (h1 : Kd.R d e w1 W.heap.size ok2 v1 y1) :
    Kd.R d e w1 base (fun k => (ok k ∧ some k ≠ v0.ownBlock) ∧ some k ≠ v1.ownBlock) u xs :=
  Kd.R_mono (Kd.R_told (Kd.R_told (Kd.R_old hu hb) (Kd.R_base h0)) (Kd.R_base h1)) (fun _ h_ => h_.1)
/-! ### laws_FnComponentsWalked: function 3 -/
mutual
def laws_FnComponentsWalked.j0 : Nat → List Int → List (List Int) → Bool → Int → List Int → Bool → List Int → List Int → Option (Bool)
  | 0, _, _, _, _, _, _, _, _ => none
  | k + 1, x1, x6, x9, x10, x12, x107, x427000, x427001 => if x107 = true then (some false) else ((spec_DrawWayFrom.f k x1).bind fun bt448 => ((impl_WayFrom.f k bt448.1 bt448.2.1 bt448.2.2).bind fun bt456 => ((spec_WayFrom.f k bt448.1 bt448.2.1 bt448.2.2).bind fun bt460 => (if (bt456.2 != bt460.2) = true then (laws_FnComponentsWalked.j1 k x1 x6 x9 x10 x12 bt448.2.2 bt456.1 bt456.2 true x427000 x427001 bt448.1 bt448.2.1) else ((laws_sSame.f k bt456.1 bt460.1).bind fun t464 => (laws_FnComponentsWalked.j1 k x1 x6 x9 x10 x12 bt448.2.2 bt456.1 bt456.2 (!t464) x427000 x427001 bt448.1 bt448.2.1))))))
def laws_FnComponentsWalked.j1 : Nat → List Int → List (List Int) → Bool → Int → List Int → Int → List Int → Bool → Bool → List Int → List Int → List Int → List Int → Option (Bool)
  | 0, _, _, _, _, _, _, _, _, _, _, _, _, _ => none
  | k + 1, x1, x6, x9, x10, x12, x17, x18, x19, x133, x427000, x427001, x456000, x456001 => if x133 = true then (some false) else (if x19 = true then (if 0 < (x18.length : Int) then (if (rd x18 0) = x17 then (laws_FnComponentsWalked.j2 k x1 x6 x9 x10 x12 x18 (((x18.length : Int) % 2) == 1) x427000 x427001 x456000 x456001) else (laws_FnComponentsWalked.j2 k x1 x6 x9 x10 x12 x18 true x427000 x427001 x456000 x456001)) else (none)) else (laws_FnComponentsWalked.j4 k x1 x6 x9 x10 x12 x427000 x427001))
def laws_FnComponentsWalked.j4 : Nat → List Int → List (List Int) → Bool → Int → List Int → List Int → List Int → Option (Bool)
  | 0, _, _, _, _, _, _, _ => none
  | k + 1, x1, x6, x9, x10, x12, x427000, x427001 => (spec_DrawSignOf.f k x1).bind fun t472 => ((impl_SignOf.f k t472).bind fun bt475 => ((spec_SignOf.f k t472).bind fun bt477 => (if (bt475.2 != bt477.2) = true then (laws_FnComponentsWalked.j5 k x6 x9 x10 x12 true x427000 x427001) else (laws_FnComponentsWalked.j5 k x6 x9 x10 x12 (bt475.1 != bt477.1) x427000 x427001))))
def laws_FnComponentsWalked.j5 : Nat → List (List Int) → Bool → Int → List Int → Bool → List Int → List Int → Option (Bool)
  | 0, _, _, _, _, _, _, _ => none
  | k + 1, x6, x9, x10, x12, x205, x427000, x427001 => if x205 = true then (some false) else (if x9 = true then (laws_FnComponentsWalked.l1 k x6 x10 x12 0 x6 (x6.length : Int) 0 x427000 x427001) else (some true))
def laws_FnComponentsWalked.l1 : Nat → List (List Int) → Int → List Int → Int → List (List Int) → Int → Int → List Int → List Int → Option (Bool)
  | 0, _, _, _, _, _, _, _, _, _ => none
  | k + 1, x6, x10, x12, x28, x208, x209, x210, x427000, x427001 => if x210 < x209 then (if 0 ≤ x210 then (if x210 < (x208.length : Int) then (laws_FnComponentsWalked.l2 k x6 x10 x12 (wrap64 (x28 + ((rd_L2 x208 x210).length : Int))) x210 (rd_L2 x208 x210) x208 x209 x210 (rd_L2 x208 x210) ((rd_L2 x208 x210).length : Int) 0 x427000 x427001) else (none)) else (none)) else ((impl_SignOf.f k x427000).bind fun bt479 => ((impl_SignOf.f k x427001).bind fun bt481 => ((impl_IsMeander.f k x427000 x427001).bind fun bt483 => (if bt479.2 = true then (if bt481.2 = true then (if bt483.2 = true then (if x28 = (x427000.length : Int) then (if (x6.length : Int) = x10 then (if (((Int.tmod (wrap64 ((wrap64 ((x427000.length : Int) / 2)) - x10)) 2) == 0) == (bt479.1 == bt481.1)) = true then (some (bt483.1 == (x10 == 1))) else (some false)) else (some false)) else (some false)) else (some false)) else (some false)) else (some false)))))
def laws_FnComponentsWalked.l2 : Nat → List (List Int) → Int → List Int → Int → Int → List Int → List (List Int) → Int → Int → List Int → Int → Int → List Int → List Int → Option (Bool)
  | 0, _, _, _, _, _, _, _, _, _, _, _, _, _, _ => none
  | k + 1, x6, x10, x12, x28, x29, x30, x208, x209, x210, x219, x220, x221, x427000, x427001 => if x221 < x220 then (if 0 ≤ x221 then (if x221 < (x219.length : Int) then (if 0 ≤ (rd x219 x221) then (if (rd x219 x221) < (x12.length : Int) then (if (rd x12 (rd x219 x221)) = x29 then (if (rd x219 x221) < (x427000.length : Int) then (if 0 ≤ (rd x427000 (rd x219 x221)) then (if (rd x427000 (rd x219 x221)) < (x12.length : Int) then (if (rd x12 (rd x427000 (rd x219 x221))) = x29 then (if (rd x219 x221) < (x427001.length : Int) then (if 0 ≤ (rd x427001 (rd x219 x221)) then (if (rd x427001 (rd x219 x221)) < (x12.length : Int) then (if (rd x12 (rd x427001 (rd x219 x221))) = x29 then (laws_FnComponentsWalked.l2 k x6 x10 x12 x28 x29 x30 x208 x209 x210 x219 x220 (wrap64 (x221 + 1)) x427000 x427001) else (some false)) else (none)) else (none)) else (none)) else (some false)) else (none)) else (none)) else (none)) else (some false)) else (none)) else (none)) else (none)) else (none)) else (if 0 < (x30.length : Int) then ((impl_WayFrom.f k x427000 x427001 (rd x30 0)).bind fun bt493 => (if bt493.2 = true then (if (bt493.1.length : Int) = (x30.length : Int) then (if x29 > 0 then (if 0 ≤ (wrap64 (x29 - 1)) then (if (wrap64 (x29 - 1)) < (x6.length : Int) then (if 0 < ((rd_L2 x6 (wrap64 (x29 - 1))).length : Int) then (if (rd (rd_L2 x6 (wrap64 (x29 - 1))) 0) ≥ (rd x30 0) then (some false) else (laws_FnComponentsWalked.l1 k x6 x10 x12 x28 x208 x209 (wrap64 (x210 + 1)) x427000 x427001)) else (none)) else (none)) else (none)) else (laws_FnComponentsWalked.l1 k x6 x10 x12 x28 x208 x209 (wrap64 (x210 + 1)) x427000 x427001)) else (some false)) else (some false))) else (none))
def laws_FnComponentsWalked.j2 : Nat → List Int → List (List Int) → Bool → Int → List Int → List Int → Bool → List Int → List Int → List Int → List Int → Option (Bool)
  | 0, _, _, _, _, _, _, _, _, _, _, _ => none
  | k + 1, x1, x6, x9, x10, x12, x18, x145, x427000, x427001, x456000, x456001 => if x145 = true then (some false) else (laws_FnComponentsWalked.l0 k x1 x6 x9 x10 x12 x18 0 x427000 x427001 x456000 x456001)
def laws_FnComponentsWalked.l0 : Nat → List Int → List (List Int) → Bool → Int → List Int → List Int → Int → List Int → List Int → List Int → List Int → Option (Bool)
  | 0, _, _, _, _, _, _, _, _, _, _, _ => none
  | k + 1, x1, x6, x9, x10, x12, x18, x22, x427000, x427001, x456000, x456001 => if x22 < (x18.length : Int) then (if 0 ≤ x22 then (if 0 ≤ (rd x18 x22) then (if (rd x18 x22) < (x456000.length : Int) then (if 0 ≤ (wrap64 (x22 + 1)) then (if (wrap64 (x22 + 1)) < (x18.length : Int) then (if (rd x456000 (rd x18 x22)) = (rd x18 (wrap64 (x22 + 1))) then (if 0 ≤ (rd x18 (wrap64 (x22 + 1))) then (if (rd x18 (wrap64 (x22 + 1))) < (x456001.length : Int) then (if (x18.length : Int) = 0 then (none) else (if 0 ≤ (Int.tmod (wrap64 (x22 + 2)) (x18.length : Int)) then (if (Int.tmod (wrap64 (x22 + 2)) (x18.length : Int)) < (x18.length : Int) then (if (rd x456001 (rd x18 (wrap64 (x22 + 1)))) = (rd x18 (Int.tmod (wrap64 (x22 + 2)) (x18.length : Int))) then (laws_FnComponentsWalked.l0 k x1 x6 x9 x10 x12 x18 (wrap64 (x22 + 2)) x427000 x427001 x456000 x456001) else (some false)) else (none)) else (none))) else (none)) else (none)) else (some false)) else (none)) else (none)) else (none)) else (none)) else (none)) else (laws_FnComponentsWalked.j4 k x1 x6 x9 x10 x12 x427000 x427001)
end
def laws_FnComponentsWalked.f (k : Nat) (l0 : List Int) (l1 : List Int) : Option (Bool) := (laws_big.f l0 l1).bind fun t419 => (if t419 = true then (some true) else ((spec_DrawCurvesOf.f k l0).bind fun bt420 => ((impl_CurvesOf.f k bt420.1 bt420.2).bind fun bt427 => ((spec_CurvesOf.f k bt420.1 bt420.2).bind fun bt431 => ((impl_ComponentsOf.f k bt420.1 bt420.2).bind fun bt435 => ((impl_CurveOfPoints.f k bt420.1 bt420.2).bind fun bt437 => ((spec_CurveOfPoints.f k bt420.1 bt420.2).bind fun bt441 => (if (bt427.2 != bt431.2) = true then (laws_FnComponentsWalked.j0 k l1 bt427.1 bt431.2 bt435.1 bt437.1 true bt420.1 bt420.2) else ((laws_sSameRows.f k bt427.1 bt431.1).bind fun t445 => (if t445 = true then (if (bt435.2 != bt427.2) = true then (laws_FnComponentsWalked.j0 k l1 bt427.1 bt431.2 bt435.1 bt437.1 true bt420.1 bt420.2) else (if (bt437.2 != bt441.2) = true then (laws_FnComponentsWalked.j0 k l1 bt427.1 bt431.2 bt435.1 bt437.1 true bt420.1 bt420.2) else ((laws_sSame.f k bt437.1 bt441.1).bind fun t446 => (if t446 = true then (if (bt437.2 != bt427.2) = true then (laws_FnComponentsWalked.j0 k l1 bt427.1 bt431.2 bt435.1 bt437.1 true bt420.1 bt420.2) else ((impl_IsPair.f k bt420.1 bt420.2).bind fun t447 => (laws_FnComponentsWalked.j0 k l1 bt427.1 bt431.2 bt435.1 bt437.1 (bt427.2 != t447) bt420.1 bt420.2))) else (laws_FnComponentsWalked.j0 k l1 bt427.1 bt431.2 bt435.1 bt437.1 true bt420.1 bt420.2))))) else (laws_FnComponentsWalked.j0 k l1 bt427.1 bt431.2 bt435.1 bt437.1 true bt420.1 bt420.2)))))))))))
theorem laws_FnComponentsWalked.mono_l : ∀ k, (∀ y0 y1 y2 y3 y4 y5 y6 y7, LeO (laws_FnComponentsWalked.j0 k y0 y1 y2 y3 y4 y5 y6 y7) (laws_FnComponentsWalked.j0 (k + 1) y0 y1 y2 y3 y4 y5 y6 y7)) ∧ (∀ y0 y1 y2 y3 y4 y5 y6 y7 y8 y9 y10 y11 y12, LeO (laws_FnComponentsWalked.j1 k y0 y1 y2 y3 y4 y5 y6 y7 y8 y9 y10 y11 y12) (laws_FnComponentsWalked.j1 (k + 1) y0 y1 y2 y3 y4 y5 y6 y7 y8 y9 y10 y11 y12)) ∧ (∀ y0 y1 y2 y3 y4 y5 y6, LeO (laws_FnComponentsWalked.j4 k y0 y1 y2 y3 y4 y5 y6) (laws_FnComponentsWalked.j4 (k + 1) y0 y1 y2 y3 y4 y5 y6)) ∧ (∀ y0 y1 y2 y3 y4 y5 y6, LeO (laws_FnComponentsWalked.j5 k y0 y1 y2 y3 y4 y5 y6) (laws_FnComponentsWalked.j5 (k + 1) y0 y1 y2 y3 y4 y5 y6)) ∧ (∀ y0 y1 y2 y3 y4 y5 y6 y7 y8, LeO (laws_FnComponentsWalked.l1 k y0 y1 y2 y3 y4 y5 y6 y7 y8) (laws_FnComponentsWalked.l1 (k + 1) y0 y1 y2 y3 y4 y5 y6 y7 y8)) ∧ (∀ y0 y1 y2 y3 y4 y5 y6 y7 y8 y9 y10 y11 y12 y13, LeO (laws_FnComponentsWalked.l2 k y0 y1 y2 y3 y4 y5 y6 y7 y8 y9 y10 y11 y12 y13) (laws_FnComponentsWalked.l2 (k + 1) y0 y1 y2 y3 y4 y5 y6 y7 y8 y9 y10 y11 y12 y13)) ∧ (∀ y0 y1 y2 y3 y4 y5 y6 y7 y8 y9 y10, LeO (laws_FnComponentsWalked.j2 k y0 y1 y2 y3 y4 y5 y6 y7 y8 y9 y10) (laws_FnComponentsWalked.j2 (k + 1) y0 y1 y2 y3 y4 y5 y6 y7 y8 y9 y10)) ∧ (∀ y0 y1 y2 y3 y4 y5 y6 y7 y8 y9 y10, LeO (laws_FnComponentsWalked.l0 k y0 y1 y2 y3 y4 y5 y6 y7 y8 y9 y10) (laws_FnComponentsWalked.l0 (k + 1) y0 y1 y2 y3 y4 y5 y6 y7 y8 y9 y10))
  | 0 => ⟨fun _ _ _ _ _ _ _ _ r h => by simp [laws_FnComponentsWalked.j0] at h, fun _ _ _ _ _ _ _ _ _ _ _ _ _ r h => by simp [laws_FnComponentsWalked.j1] at h, fun _ _ _ _ _ _ _ r h => by simp [laws_FnComponentsWalked.j4] at h, fun _ _ _ _ _ _ _ r h => by simp [laws_FnComponentsWalked.j5] at h, fun _ _ _ _ _ _ _ _ _ r h => by simp [laws_FnComponentsWalked.l1] at h, fun _ _ _ _ _ _ _ _ _ _ _ _ _ _ r h => by simp [laws_FnComponentsWalked.l2] at h, fun _ _ _ _ _ _ _ _ _ _ _ r h => by simp [laws_FnComponentsWalked.j2] at h, fun _ _ _ _ _ _ _ _ _ _ _ r h => by simp [laws_FnComponentsWalked.l0] at h⟩
  | k + 1 => by
    obtain ⟨ih0, ih1, ih2, ih3, ih4, ih5, ih6, ih7⟩ := laws_FnComponentsWalked.mono_l k
    refine ⟨?_, ?_, ?_, ?_, ?_, ?_, ?_, ?_⟩
    · intro y0 y1 y2 y3 y4 y5 y6 y7
      unfold laws_FnComponentsWalked.j0
      repeat' first
      | (with_reducible exact ih0 _ _ _ _ _ _ _ _)
      | (with_reducible exact ih1 _ _ _ _ _ _ _ _ _ _ _ _ _)
      | (with_reducible exact ih2 _ _ _ _ _ _ _)
      | (with_reducible exact ih3 _ _ _ _ _ _ _)
      | (with_reducible exact ih4 _ _ _ _ _ _ _ _ _)
      | (with_reducible exact ih5 _ _ _ _ _ _ _ _ _ _ _ _ _ _)
      | (with_reducible exact ih6 _ _ _ _ _ _ _ _ _ _ _)
      | (with_reducible exact ih7 _ _ _ _ _ _ _ _ _ _ _)
      | (with_reducible exact impl_ComponentsOf.mono _ _ _)
      | (with_reducible exact impl_CurveOfPoints.mono _ _ _)
      | (with_reducible exact impl_CurvesOf.mono _ _ _)
      | (with_reducible exact impl_IsMeander.mono _ _ _)
      | (with_reducible exact impl_IsPair.mono _ _ _)
      | (with_reducible exact impl_SignOf.mono _ _)
      | (with_reducible exact impl_WayFrom.mono _ _ _ _)
      | (with_reducible exact laws_sSame.mono _ _ _)
      | (with_reducible exact laws_sSameRows.mono _ _ _)
      | (with_reducible exact spec_CurveOfPoints.mono _ _ _)
      | (with_reducible exact spec_CurvesOf.mono _ _ _)
      | (with_reducible exact spec_DrawCurvesOf.mono _ _)
      | (with_reducible exact spec_DrawSignOf.mono _ _)
      | (with_reducible exact spec_DrawWayFrom.mono _ _)
      | (with_reducible exact spec_SignOf.mono _ _)
      | (with_reducible exact spec_WayFrom.mono _ _ _ _)
      | (with_reducible exact LeO.refl _)
      | (with_reducible exact LeO.none _)
      | (with_reducible refine LeO.ite ?_ ?_)
      | (with_reducible refine LeO.bind ?_ (fun _ => ?_))
      | exact LeO.none _
      | refine LeO.ite ?_ ?_
      | refine LeO.bind ?_ (fun _ => ?_)
    · intro y0 y1 y2 y3 y4 y5 y6 y7 y8 y9 y10 y11 y12
      unfold laws_FnComponentsWalked.j1
      repeat' first
      | (with_reducible exact ih0 _ _ _ _ _ _ _ _)
      | (with_reducible exact ih1 _ _ _ _ _ _ _ _ _ _ _ _ _)
      | (with_reducible exact ih2 _ _ _ _ _ _ _)
      | (with_reducible exact ih3 _ _ _ _ _ _ _)
      | (with_reducible exact ih4 _ _ _ _ _ _ _ _ _)
      | (with_reducible exact ih5 _ _ _ _ _ _ _ _ _ _ _ _ _ _)
      | (with_reducible exact ih6 _ _ _ _ _ _ _ _ _ _ _)
      | (with_reducible exact ih7 _ _ _ _ _ _ _ _ _ _ _)
      | (with_reducible exact impl_ComponentsOf.mono _ _ _)
      | (with_reducible exact impl_CurveOfPoints.mono _ _ _)
      | (with_reducible exact impl_CurvesOf.mono _ _ _)
      | (with_reducible exact impl_IsMeander.mono _ _ _)
      | (with_reducible exact impl_IsPair.mono _ _ _)
      | (with_reducible exact impl_SignOf.mono _ _)
      | (with_reducible exact impl_WayFrom.mono _ _ _ _)
      | (with_reducible exact laws_sSame.mono _ _ _)
      | (with_reducible exact laws_sSameRows.mono _ _ _)
      | (with_reducible exact spec_CurveOfPoints.mono _ _ _)
      | (with_reducible exact spec_CurvesOf.mono _ _ _)
      | (with_reducible exact spec_DrawCurvesOf.mono _ _)
      | (with_reducible exact spec_DrawSignOf.mono _ _)
      | (with_reducible exact spec_DrawWayFrom.mono _ _)
      | (with_reducible exact spec_SignOf.mono _ _)
      | (with_reducible exact spec_WayFrom.mono _ _ _ _)
      | (with_reducible exact LeO.refl _)
      | (with_reducible exact LeO.none _)
      | (with_reducible refine LeO.ite ?_ ?_)
      | (with_reducible refine LeO.bind ?_ (fun _ => ?_))
      | exact LeO.none _
      | refine LeO.ite ?_ ?_
      | refine LeO.bind ?_ (fun _ => ?_)
    · intro y0 y1 y2 y3 y4 y5 y6
      unfold laws_FnComponentsWalked.j4
      repeat' first
      | (with_reducible exact ih0 _ _ _ _ _ _ _ _)
      | (with_reducible exact ih1 _ _ _ _ _ _ _ _ _ _ _ _ _)
      | (with_reducible exact ih2 _ _ _ _ _ _ _)
      | (with_reducible exact ih3 _ _ _ _ _ _ _)
      | (with_reducible exact ih4 _ _ _ _ _ _ _ _ _)
      | (with_reducible exact ih5 _ _ _ _ _ _ _ _ _ _ _ _ _ _)
      | (with_reducible exact ih6 _ _ _ _ _ _ _ _ _ _ _)
      | (with_reducible exact ih7 _ _ _ _ _ _ _ _ _ _ _)
      | (with_reducible exact impl_ComponentsOf.mono _ _ _)
      | (with_reducible exact impl_CurveOfPoints.mono _ _ _)
      | (with_reducible exact impl_CurvesOf.mono _ _ _)
      | (with_reducible exact impl_IsMeander.mono _ _ _)
      | (with_reducible exact impl_IsPair.mono _ _ _)
      | (with_reducible exact impl_SignOf.mono _ _)
      | (with_reducible exact impl_WayFrom.mono _ _ _ _)
      | (with_reducible exact laws_sSame.mono _ _ _)
      | (with_reducible exact laws_sSameRows.mono _ _ _)
      | (with_reducible exact spec_CurveOfPoints.mono _ _ _)
      | (with_reducible exact spec_CurvesOf.mono _ _ _)
      | (with_reducible exact spec_DrawCurvesOf.mono _ _)
      | (with_reducible exact spec_DrawSignOf.mono _ _)
      | (with_reducible exact spec_DrawWayFrom.mono _ _)
      | (with_reducible exact spec_SignOf.mono _ _)
      | (with_reducible exact spec_WayFrom.mono _ _ _ _)
      | (with_reducible exact LeO.refl _)
      | (with_reducible exact LeO.none _)
      | (with_reducible refine LeO.ite ?_ ?_)
      | (with_reducible refine LeO.bind ?_ (fun _ => ?_))
      | exact LeO.none _
      | refine LeO.ite ?_ ?_
      | refine LeO.bind ?_ (fun _ => ?_)
    · intro y0 y1 y2 y3 y4 y5 y6
      unfold laws_FnComponentsWalked.j5
      repeat' first
      | (with_reducible exact ih0 _ _ _ _ _ _ _ _)
      | (with_reducible exact ih1 _ _ _ _ _ _ _ _ _ _ _ _ _)
      | (with_reducible exact ih2 _ _ _ _ _ _ _)
      | (with_reducible exact ih3 _ _ _ _ _ _ _)
      | (with_reducible exact ih4 _ _ _ _ _ _ _ _ _)
      | (with_reducible exact ih5 _ _ _ _ _ _ _ _ _ _ _ _ _ _)
      | (with_reducible exact ih6 _ _ _ _ _ _ _ _ _ _ _)
      | (with_reducible exact ih7 _ _ _ _ _ _ _ _ _ _ _)
      | (with_reducible exact impl_ComponentsOf.mono _ _ _)
      | (with_reducible exact impl_CurveOfPoints.mono _ _ _)
      | (with_reducible exact impl_CurvesOf.mono _ _ _)
      | (with_reducible exact impl_IsMeander.mono _ _ _)
      | (with_reducible exact impl_IsPair.mono _ _ _)
      | (with_reducible exact impl_SignOf.mono _ _)
      | (with_reducible exact impl_WayFrom.mono _ _ _ _)
      | (with_reducible exact laws_sSame.mono _ _ _)
      | (with_reducible exact laws_sSameRows.mono _ _ _)
      | (with_reducible exact spec_CurveOfPoints.mono _ _ _)
      | (with_reducible exact spec_CurvesOf.mono _ _ _)
      | (with_reducible exact spec_DrawCurvesOf.mono _ _)
      | (with_reducible exact spec_DrawSignOf.mono _ _)
      | (with_reducible exact spec_DrawWayFrom.mono _ _)
      | (with_reducible exact spec_SignOf.mono _ _)
      | (with_reducible exact spec_WayFrom.mono _ _ _ _)
      | (with_reducible exact LeO.refl _)
      | (with_reducible exact LeO.none _)
      | (with_reducible refine LeO.ite ?_ ?_)
      | (with_reducible refine LeO.bind ?_ (fun _ => ?_))
      | exact LeO.none _
      | refine LeO.ite ?_ ?_
      | refine LeO.bind ?_ (fun _ => ?_)
    · intro y0 y1 y2 y3 y4 y5 y6 y7 y8
      unfold laws_FnComponentsWalked.l1
      repeat' first
      | (with_reducible exact ih0 _ _ _ _ _ _ _ _)
      | (with_reducible exact ih1 _ _ _ _ _ _ _ _ _ _ _ _ _)
      | (with_reducible exact ih2 _ _ _ _ _ _ _)
      | (with_reducible exact ih3 _ _ _ _ _ _ _)
      | (with_reducible exact ih4 _ _ _ _ _ _ _ _ _)
      | (with_reducible exact ih5 _ _ _ _ _ _ _ _ _ _ _ _ _ _)
      | (with_reducible exact ih6 _ _ _ _ _ _ _ _ _ _ _)
      | (with_reducible exact ih7 _ _ _ _ _ _ _ _ _ _ _)
      | (with_reducible exact impl_ComponentsOf.mono _ _ _)
      | (with_reducible exact impl_CurveOfPoints.mono _ _ _)
      | (with_reducible exact impl_CurvesOf.mono _ _ _)
      | (with_reducible exact impl_IsMeander.mono _ _ _)
      | (with_reducible exact impl_IsPair.mono _ _ _)
      | (with_reducible exact impl_SignOf.mono _ _)
      | (with_reducible exact impl_WayFrom.mono _ _ _ _)
      | (with_reducible exact laws_sSame.mono _ _ _)
      | (with_reducible exact laws_sSameRows.mono _ _ _)
      | (with_reducible exact spec_CurveOfPoints.mono _ _ _)
      | (with_reducible exact spec_CurvesOf.mono _ _ _)
      | (with_reducible exact spec_DrawCurvesOf.mono _ _)
      | (with_reducible exact spec_DrawSignOf.mono _ _)
      | (with_reducible exact spec_DrawWayFrom.mono _ _)
      | (with_reducible exact spec_SignOf.mono _ _)
      | (with_reducible exact spec_WayFrom.mono _ _ _ _)
      | (with_reducible exact LeO.refl _)
      | (with_reducible exact LeO.none _)
      | (with_reducible refine LeO.ite ?_ ?_)
      | (with_reducible refine LeO.bind ?_ (fun _ => ?_))
      | exact LeO.none _
      | refine LeO.ite ?_ ?_
      | refine LeO.bind ?_ (fun _ => ?_)
    · intro y0 y1 y2 y3 y4 y5 y6 y7 y8 y9 y10 y11 y12 y13
      unfold laws_FnComponentsWalked.l2
      repeat' first
      | (with_reducible exact ih0 _ _ _ _ _ _ _ _)
      | (with_reducible exact ih1 _ _ _ _ _ _ _ _ _ _ _ _ _)
      | (with_reducible exact ih2 _ _ _ _ _ _ _)
      | (with_reducible exact ih3 _ _ _ _ _ _ _)
      | (with_reducible exact ih4 _ _ _ _ _ _ _ _ _)
      | (with_reducible exact ih5 _ _ _ _ _ _ _ _ _ _ _ _ _ _)
      | (with_reducible exact ih6 _ _ _ _ _ _ _ _ _ _ _)
      | (with_reducible exact ih7 _ _ _ _ _ _ _ _ _ _ _)
      | (with_reducible exact impl_ComponentsOf.mono _ _ _)
      | (with_reducible exact impl_CurveOfPoints.mono _ _ _)
      | (with_reducible exact impl_CurvesOf.mono _ _ _)
      | (with_reducible exact impl_IsMeander.mono _ _ _)
      | (with_reducible exact impl_IsPair.mono _ _ _)
      | (with_reducible exact impl_SignOf.mono _ _)
      | (with_reducible exact impl_WayFrom.mono _ _ _ _)
      | (with_reducible exact laws_sSame.mono _ _ _)
      | (with_reducible exact laws_sSameRows.mono _ _ _)
      | (with_reducible exact spec_CurveOfPoints.mono _ _ _)
      | (with_reducible exact spec_CurvesOf.mono _ _ _)
      | (with_reducible exact spec_DrawCurvesOf.mono _ _)
      | (with_reducible exact spec_DrawSignOf.mono _ _)
      | (with_reducible exact spec_DrawWayFrom.mono _ _)
      | (with_reducible exact spec_SignOf.mono _ _)
      | (with_reducible exact spec_WayFrom.mono _ _ _ _)
      | (with_reducible exact LeO.refl _)
      | (with_reducible exact LeO.none _)
      | (with_reducible refine LeO.ite ?_ ?_)
      | (with_reducible refine LeO.bind ?_ (fun _ => ?_))
      | exact LeO.none _
      | refine LeO.ite ?_ ?_
      | refine LeO.bind ?_ (fun _ => ?_)
    · intro y0 y1 y2 y3 y4 y5 y6 y7 y8 y9 y10
      unfold laws_FnComponentsWalked.j2
      repeat' first
      | (with_reducible exact ih0 _ _ _ _ _ _ _ _)
      | (with_reducible exact ih1 _ _ _ _ _ _ _ _ _ _ _ _ _)
      | (with_reducible exact ih2 _ _ _ _ _ _ _)
      | (with_reducible exact ih3 _ _ _ _ _ _ _)
      | (with_reducible exact ih4 _ _ _ _ _ _ _ _ _)
      | (with_reducible exact ih5 _ _ _ _ _ _ _ _ _ _ _ _ _ _)
      | (with_reducible exact ih6 _ _ _ _ _ _ _ _ _ _ _)
      | (with_reducible exact ih7 _ _ _ _ _ _ _ _ _ _ _)
      | (with_reducible exact impl_ComponentsOf.mono _ _ _)
      | (with_reducible exact impl_CurveOfPoints.mono _ _ _)
      | (with_reducible exact impl_CurvesOf.mono _ _ _)
      | (with_reducible exact impl_IsMeander.mono _ _ _)
      | (with_reducible exact impl_IsPair.mono _ _ _)
      | (with_reducible exact impl_SignOf.mono _ _)
      | (with_reducible exact impl_WayFrom.mono _ _ _ _)
      | (with_reducible exact laws_sSame.mono _ _ _)
      | (with_reducible exact laws_sSameRows.mono _ _ _)
      | (with_reducible exact spec_CurveOfPoints.mono _ _ _)
      | (with_reducible exact spec_CurvesOf.mono _ _ _)
      | (with_reducible exact spec_DrawCurvesOf.mono _ _)
      | (with_reducible exact spec_DrawSignOf.mono _ _)
      | (with_reducible exact spec_DrawWayFrom.mono _ _)
      | (with_reducible exact spec_SignOf.mono _ _)
      | (with_reducible exact spec_WayFrom.mono _ _ _ _)
      | (with_reducible exact LeO.refl _)
      | (with_reducible exact LeO.none _)
      | (with_reducible refine LeO.ite ?_ ?_)
      | (with_reducible refine LeO.bind ?_ (fun _ => ?_))
      | exact LeO.none _
      | refine LeO.ite ?_ ?_
      | refine LeO.bind ?_ (fun _ => ?_)
    · intro y0 y1 y2 y3 y4 y5 y6 y7 y8 y9 y10
      unfold laws_FnComponentsWalked.l0
      repeat' first
      | (with_reducible exact ih0 _ _ _ _ _ _ _ _)
      | (with_reducible exact ih1 _ _ _ _ _ _ _ _ _ _ _ _ _)
      | (with_reducible exact ih2 _ _ _ _ _ _ _)
      | (with_reducible exact ih3 _ _ _ _ _ _ _)
      | (with_reducible exact ih4 _ _ _ _ _ _ _ _ _)
      | (with_reducible exact ih5 _ _ _ _ _ _ _ _ _ _ _ _ _ _)
      | (with_reducible exact ih6 _ _ _ _ _ _ _ _ _ _ _)
      | (with_reducible exact ih7 _ _ _ _ _ _ _ _ _ _ _)
      | (with_reducible exact impl_ComponentsOf.mono _ _ _)
      | (with_reducible exact impl_CurveOfPoints.mono _ _ _)
      | (with_reducible exact impl_CurvesOf.mono _ _ _)
      | (with_reducible exact impl_IsMeander.mono _ _ _)
      | (with_reducible exact impl_IsPair.mono _ _ _)
      | (with_reducible exact impl_SignOf.mono _ _)
      | (with_reducible exact impl_WayFrom.mono _ _ _ _)
      | (with_reducible exact laws_sSame.mono _ _ _)
      | (with_reducible exact laws_sSameRows.mono _ _ _)
      | (with_reducible exact spec_CurveOfPoints.mono _ _ _)
      | (with_reducible exact spec_CurvesOf.mono _ _ _)
      | (with_reducible exact spec_DrawCurvesOf.mono _ _)
      | (with_reducible exact spec_DrawSignOf.mono _ _)
      | (with_reducible exact spec_DrawWayFrom.mono _ _)
      | (with_reducible exact spec_SignOf.mono _ _)
      | (with_reducible exact spec_WayFrom.mono _ _ _ _)
      | (with_reducible exact LeO.refl _)
      | (with_reducible exact LeO.none _)
      | (with_reducible refine LeO.ite ?_ ?_)
      | (with_reducible refine LeO.bind ?_ (fun _ => ?_))
      | exact LeO.none _
      | refine LeO.ite ?_ ?_
      | refine LeO.bind ?_ (fun _ => ?_)
theorem laws_FnComponentsWalked.mono : ∀ a0 a1 k, LeO (laws_FnComponentsWalked.f k a0 a1) (laws_FnComponentsWalked.f (k + 1) a0 a1) := by
  intro a0 a1 k
  obtain ⟨ih0, ih1, ih2, ih3, ih4, ih5, ih6, ih7⟩ := laws_FnComponentsWalked.mono_l k
  unfold laws_FnComponentsWalked.f
  repeat' first
      | (with_reducible exact ih0 _ _ _ _ _ _ _ _)
      | (with_reducible exact ih1 _ _ _ _ _ _ _ _ _ _ _ _ _)
      | (with_reducible exact ih2 _ _ _ _ _ _ _)
      | (with_reducible exact ih3 _ _ _ _ _ _ _)
      | (with_reducible exact ih4 _ _ _ _ _ _ _ _ _)
      | (with_reducible exact ih5 _ _ _ _ _ _ _ _ _ _ _ _ _ _)
      | (with_reducible exact ih6 _ _ _ _ _ _ _ _ _ _ _)
      | (with_reducible exact ih7 _ _ _ _ _ _ _ _ _ _ _)
      | (with_reducible exact impl_ComponentsOf.mono _ _ _)
      | (with_reducible exact impl_CurveOfPoints.mono _ _ _)
      | (with_reducible exact impl_CurvesOf.mono _ _ _)
      | (with_reducible exact impl_IsMeander.mono _ _ _)
      | (with_reducible exact impl_IsPair.mono _ _ _)
      | (with_reducible exact impl_SignOf.mono _ _)
      | (with_reducible exact impl_WayFrom.mono _ _ _ _)
      | (with_reducible exact laws_sSame.mono _ _ _)
      | (with_reducible exact laws_sSameRows.mono _ _ _)
      | (with_reducible exact spec_CurveOfPoints.mono _ _ _)
      | (with_reducible exact spec_CurvesOf.mono _ _ _)
      | (with_reducible exact spec_DrawCurvesOf.mono _ _)
      | (with_reducible exact spec_DrawSignOf.mono _ _)
      | (with_reducible exact spec_DrawWayFrom.mono _ _)
      | (with_reducible exact spec_SignOf.mono _ _)
      | (with_reducible exact spec_WayFrom.mono _ _ _ _)
      | (with_reducible exact LeO.refl _)
      | (with_reducible exact LeO.none _)
      | (with_reducible refine LeO.ite ?_ ?_)
      | (with_reducible refine LeO.bind ?_ (fun _ => ?_))
      | exact LeO.none _
      | refine LeO.ite ?_ ?_
      | refine LeO.bind ?_ (fun _ => ?_)
def laws_FnComponentsWalked.T22 : Bool × List (List Nat × List Nat) := (true, [([], []), ([0], [0]), ([], []), ([], []), ([2, 3], [2, 3]), ([4], [4]), ([1, 5], [1, 5]), ([6], [6]), ([], []), ([], []), ([9], [9]), ([8, 10], [8, 10]), ([11], [11]), ([7, 12], [7, 12]), ([13], [13]), ([14], [14]), ([15, 14], [14, 15]), ([14], [14]), ([14], [14]), ([18, 14], [14, 18]), ([17, 19, 14], [14, 17, 19]), ([20, 14], [14, 20]), ([16, 21, 14], [14, 16, 21]), ([22, 14], [14, 22]), ([14], [14]), ([14], [14]), ([25, 14], [14, 25]), ([14], [14]), ([27, 14], [14, 27]), ([26, 28, 14], [14, 26, 28]), ([24, 29, 14], [14, 24, 29]), ([30, 14], [14, 30]), ([23, 31, 14], [14, 23, 31]), ([14, 32], [14, 32])])
def laws_FnComponentsWalked.B22 : List Nat := [0, 1, 0, 0, 12, 28, 63, 127, 0, 0, 512, 1792, 3840, 8191, 16383, 32767, 65535, 32767, 32767, 294911, 950271, 1998847, 4194303, 8388607, 32767, 32767, 33587199, 32767, 134250495, 503349247, 1056997375, 2130739199, 4294967295, 8589934591]
theorem laws_FnComponentsWalked.tab22 : rtab .any (opsOf Try.f3 22) = laws_FnComponentsWalked.T22 := by kernel_rfl
theorem laws_FnComponentsWalked.bits22 : waitsOk laws_FnComponentsWalked.T22.2 laws_FnComponentsWalked.B22 = true := by kernel_rfl
def laws_FnComponentsWalked.T42 : Bool × List (List Nat × List Nat) := (true, [([], []), ([], []), ([1], [1]), ([2], [2]), ([0, 3], [0, 3]), ([4], [4]), ([5], [5]), ([5], [5]), ([6, 4, 0, 1, 2, 3, 4, 5, 6], [6]), ([7, 8, 0, 1, 2, 3, 4, 5, 6, 7, 8], [7])])
def laws_FnComponentsWalked.B42 : List Nat := [0, 0, 2, 6, 15, 31, 63, 63, 127, 511]
theorem laws_FnComponentsWalked.tab42 : rtab .any (opsOf Try.f3 42) = laws_FnComponentsWalked.T42 := by kernel_rfl
theorem laws_FnComponentsWalked.bits42 : waitsOk laws_FnComponentsWalked.T42.2 laws_FnComponentsWalked.B42 = true := by kernel_rfl
def laws_FnComponentsWalked.T43 : Bool × List (List Nat × List Nat) := (true, [([], []), ([0], [0]), ([1], [1]), ([2], [2]), ([3, 2], [2, 3]), ([2], [2]), ([5, 2], [2, 5]), ([4, 6, 2], [2, 4, 6]), ([2, 7], [2, 7]), ([8, 2], [8]), ([9], [9]), ([10, 9], [9, 10]), ([11, 9, 9], [9, 11]), ([12], [12]), ([12], [12]), ([14, 12], [12, 14]), ([13, 15, 12], [12, 13, 15]), ([16, 12], [12, 16]), ([17, 12], [12, 17]), ([18, 12], [12, 18]), ([12], [12]), ([20, 12], [12, 20]), ([21, 12], [12, 21]), ([19, 22, 12], [12, 19, 22]), ([12, 23, 9], [9, 12, 23]), ([9, 24], [9, 24])])
def laws_FnComponentsWalked.B43 : List Nat := [0, 1, 3, 7, 15, 7, 39, 127, 255, 511, 1023, 2047, 4095, 8191, 8191, 24575, 65535, 131071, 262143, 524287, 8191, 1056767, 3153919, 8388607, 16777215, 33554431]
theorem laws_FnComponentsWalked.tab43 : rtab .any (opsOf Try.f3 43) = laws_FnComponentsWalked.T43 := by kernel_rfl
theorem laws_FnComponentsWalked.bits43 : waitsOk laws_FnComponentsWalked.T43.2 laws_FnComponentsWalked.B43 = true := by kernel_rfl
theorem laws_FnComponentsWalked.j0_no : ∀ k y0 y1 y2 y3 y4 y5 y6, ¬ laws_FnComponentsWalked.j0 k y0 y1 y2 y3 y4 true y5 y6 = some true
  | 0, _, _, _, _, _, _, _ => by simp [laws_FnComponentsWalked.j0]
  | k + 1, _, _, _, _, _, _, _ => by simp [laws_FnComponentsWalked.j0]
theorem laws_FnComponentsWalked.j1_no : ∀ k y0 y1 y2 y3 y4 y5 y6 y7 y8 y9 y10 y11, ¬ laws_FnComponentsWalked.j1 k y0 y1 y2 y3 y4 y5 y6 y7 true y8 y9 y10 y11 = some true
  | 0, _, _, _, _, _, _, _, _, _, _, _, _ => by simp [laws_FnComponentsWalked.j1]
  | k + 1, _, _, _, _, _, _, _, _, _, _, _, _ => by simp [laws_FnComponentsWalked.j1]
theorem laws_FnComponentsWalked.j2_no : ∀ k y0 y1 y2 y3 y4 y5 y6 y7 y8 y9, ¬ laws_FnComponentsWalked.j2 k y0 y1 y2 y3 y4 y5 true y6 y7 y8 y9 = some true
  | 0, _, _, _, _, _, _, _, _, _, _ => by simp [laws_FnComponentsWalked.j2]
  | k + 1, _, _, _, _, _, _, _, _, _, _ => by simp [laws_FnComponentsWalked.j2]
theorem laws_FnComponentsWalked.j5_no : ∀ k y0 y1 y2 y3 y4 y5, ¬ laws_FnComponentsWalked.j5 k y0 y1 y2 y3 true y4 y5 = some true
  | 0, _, _, _, _, _, _ => by simp [laws_FnComponentsWalked.j5]
  | k + 1, _, _, _, _, _, _ => by simp [laws_FnComponentsWalked.j5]
def laws_FnComponentsWalked.left : Code → Option Nat
  | .seq a _ => laws_FnComponentsWalked.left a
  | .region m _ _ => some m
  | _ => none
def laws_FnComponentsWalked.findRest (n : Nat) : Code → Option Code
  | .seq a b => if laws_FnComponentsWalked.left a = some n then some (.seq a b) else match laws_FnComponentsWalked.findRest n a with
    | some c => some c
    | none => laws_FnComponentsWalked.findRest n b
  | .cond _ a b => match laws_FnComponentsWalked.findRest n a with
    | some c => some c
    | none => laws_FnComponentsWalked.findRest n b
  | .block _ c => laws_FnComponentsWalked.findRest n c
  | .loop c => laws_FnComponentsWalked.findRest n c
  | .scope c => laws_FnComponentsWalked.findRest n c
  | _ => none
def laws_FnComponentsWalked.findCond (n : Nat) : Code → Option Code
  | .seq a b => match laws_FnComponentsWalked.findCond n a with
    | some c => some c
    | none => laws_FnComponentsWalked.findCond n b
  | .cond c a b => match c with
    | .tmp m => if m = n then some (.cond (.tmp m) a b) else match laws_FnComponentsWalked.findCond n a with
      | some c => some c
      | none => laws_FnComponentsWalked.findCond n b
    | _ => match laws_FnComponentsWalked.findCond n a with
      | some c => some c
      | none => laws_FnComponentsWalked.findCond n b
  | .block _ c => laws_FnComponentsWalked.findCond n c
  | .loop c => laws_FnComponentsWalked.findCond n c
  | .scope c => laws_FnComponentsWalked.findCond n c
  | _ => none

end Go.Proofs.Ytfencncopkeobaa.QFnComponentsWalked
