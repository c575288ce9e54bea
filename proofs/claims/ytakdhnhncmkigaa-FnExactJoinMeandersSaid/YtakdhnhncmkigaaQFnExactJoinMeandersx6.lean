-- Written by wip/myprint.py (a program of mine round the kit's printer). Lean checks it.
import Derived.Test.YtakdhnhncmkigaaQFnExactJoinMeandersx0
import Derived.Test.YtakdhnhncmkigaaQFnExactJoinMeandersx1
import Derived.Test.YtakdhnhncmkigaaQFnExactJoinMeandersx2
import Derived.Test.YtakdhnhncmkigaaQFnExactJoinMeandersx4
import Derived.Test.YtakdhnhncmkigaaQFnExactJoinMeandersx5
namespace Go.Proofs.Ytakdhnhncmkigaa.QFnExactJoinMeanders
open Go.RowKit Go.Proofs.YtakdhnhncmkigaaW.PrintWords Go.Proofs.YtakdhnhncmkigaaW.PrintLast Go.Proofs.YtakdhnhncmkigaaW.PrintMore
attribute [local go_sem] max2_int min2_int max_two min_two max_three min_three max_four min_four   -- for this text's walks alone
set_option linter.unusedVariables false
set_option linter.unusedSimpArgs false

theorem R2_ {d : Kd Int} {e : TypeId} {W w1 : World} {base : Nat} {ok ok1 ok2 : Nat → Prop} {u v0 v1 : Value} {xs y0 y1 : List Int} (hu : Kd.R d e W base ok u xs) (hb : Below W.heap.size W w1) (h0 : Kd.R d e w1 W.heap.size ok1 v0 y0) (h1 : Kd.R d e w1 W.heap.size ok2 v1 y1) :
    Kd.R d e w1 base (fun k => (ok k ∧ some k ≠ v0.ownBlock) ∧ some k ≠ v1.ownBlock) u xs :=
  Kd.R_mono (Kd.R_told (Kd.R_told (Kd.R_old hu hb) (Kd.R_base h0)) (Kd.R_base h1)) (fun _ h_ => h_.1)
/-! ### laws_FnExactJoinMeanders: function 3 -/
mutual
def laws_FnExactJoinMeanders.j0 : Nat → Bool → Bool → Bool → List Int → List Int → List Int → List Int → List Int → List Int → List Int → List Int → List Int → List Int → List Int → List Int → Option (Bool)
 | 0, _, _, _, _, _, _, _, _, _, _, _, _, _, _, _ => none
 | k + 1, x7, x11, x53, x221000, x221001, x222000, x222001, x244000, x244001, x251000, x251001, x258000, x258001, x266000, x266001 => if x53 = true then (some false) else ((laws_toMeander.f k x221000 x221001).bind fun bt267 => ((laws_eqMeander.f k x251000 x251001 bt267.1 bt267.2).bind fun t273 => (if t273 = true then ((laws_toMeander.f k x222000 x222001).bind fun bt274 => ((laws_eqMeander.f k x258000 x258001 bt274.1 bt274.2).bind fun t280 => (if t280 = true then ((laws_markMeander.f k x251000 x251001 1).bind fun bt281 => ((laws_markMeander.f k x258000 x258001 bt281.1).bind fun bt284 => (if bt284.1 < 0 then (laws_FnExactJoinMeanders.j1 k x7 true x221000 x221001 x222000 x222001 x244000 x244001 x266000 x266001) else ((laws_eqMeander.f k x266000 x266001 x244000 x244001).bind fun t287 => (if t287 = true then (laws_FnExactJoinMeanders.j1 k x7 (x11 != x7) x221000 x221001 x222000 x222001 x244000 x244001 x266000 x266001) else (laws_FnExactJoinMeanders.j1 k x7 true x221000 x221001 x222000 x222001 x244000 x244001 x266000 x266001)))))) else (some false)))) else (some false))))
def laws_FnExactJoinMeanders.j1 : Nat → Bool → Bool → List Int → List Int → List Int → List Int → List Int → List Int → List Int → List Int → Option (Bool)
 | 0, _, _, _, _, _, _, _, _, _, _ => none
 | k + 1, x7, x82, x221000, x221001, x222000, x222001, x244000, x244001, x266000, x266001 => if x82 = true then (some false) else ((laws_markMeander.f k x266000 x266001 1).bind fun bt288 => ((laws_heldMeander.f k bt288.2.1 bt288.2.2 1).bind fun t291 => (if t291 < 0 then (some false) else (if t291 = bt288.1 then ((laws_toMeander.f k x221000 x221001).bind fun bt292 => ((laws_toMeander.f k x222000 x222001).bind fun bt298 => ((impl_JoinMeanders.f k bt292.1 bt292.2 bt298.1 bt298.2).bind fun bt304 => ((laws_eqMeander.f k bt304.1 bt304.2.1 x244000 x244001).bind fun t312 => (if t312 = true then (laws_FnExactJoinMeanders.j2 k bt288.1 (bt304.2.2 != x7) bt288.2.1 bt288.2.2) else (laws_FnExactJoinMeanders.j2 k bt288.1 true bt288.2.1 bt288.2.2)))))) else (some false)))))
def laws_FnExactJoinMeanders.j2 : Nat → Int → Bool → List Int → List Int → Option (Bool)
 | 0, _, _, _, _ => none
 | k + 1, x13, x110, x266000, x266001 => if x110 = true then (some false) else ((laws_heldMeander.f k x266000 x266001 1).bind fun t313 => (if t313 < 0 then (some false) else (if t313 = x13 then (some true) else (some false))))
end
def laws_FnExactJoinMeanders.f (k : Nat) (l0_0 : List Int) (l0_1 : List Int) (l1_0 : List Int) (l1_1 : List Int) : Option (Bool) := (laws_szMeander.f l0_0 l0_1 1048576).bind fun t222 => (if t222 < 0 then (some true) else ((laws_szMeander.f l1_0 l1_1 t222).bind fun t223 => (if t223 < 0 then (some true) else ((laws_toMeander.f k l0_0 l0_1).bind fun bt224 => ((laws_toMeander.f k l1_0 l1_1).bind fun bt230 => ((spec_JoinMeanders.f k bt224.1 bt224.2 bt230.1 bt230.2).bind fun bt236 => ((laws_toMeander.f k l0_0 l0_1).bind fun bt244 => ((laws_toMeander.f k l1_0 l1_1).bind fun bt251 => ((impl_JoinMeanders.f k bt244.1 bt244.2 bt251.1 bt251.2).bind fun bt258 => ((laws_eqMeander.f k bt258.1 bt258.2.1 bt236.1 bt236.2.1).bind fun t266 => (if t266 = true then (laws_FnExactJoinMeanders.j0 k bt236.2.2 bt258.2.2 (bt258.2.2 != bt236.2.2) l0_0 l0_1 l1_0 l1_1 bt236.1 bt236.2.1 bt244.1 bt244.2 bt251.1 bt251.2 bt258.1 bt258.2.1) else (laws_FnExactJoinMeanders.j0 k bt236.2.2 bt258.2.2 true l0_0 l0_1 l1_0 l1_1 bt236.1 bt236.2.1 bt244.1 bt244.2 bt251.1 bt251.2 bt258.1 bt258.2.1))))))))))))
theorem laws_FnExactJoinMeanders.mono_l : ∀ k, (∀ y0 y1 y2 y3 y4 y5 y6 y7 y8 y9 y10 y11 y12 y13 y14, LeO (laws_FnExactJoinMeanders.j0 k y0 y1 y2 y3 y4 y5 y6 y7 y8 y9 y10 y11 y12 y13 y14) (laws_FnExactJoinMeanders.j0 (k + 1) y0 y1 y2 y3 y4 y5 y6 y7 y8 y9 y10 y11 y12 y13 y14)) ∧ (∀ y0 y1 y2 y3 y4 y5 y6 y7 y8 y9, LeO (laws_FnExactJoinMeanders.j1 k y0 y1 y2 y3 y4 y5 y6 y7 y8 y9) (laws_FnExactJoinMeanders.j1 (k + 1) y0 y1 y2 y3 y4 y5 y6 y7 y8 y9)) ∧ (∀ y0 y1 y2 y3, LeO (laws_FnExactJoinMeanders.j2 k y0 y1 y2 y3) (laws_FnExactJoinMeanders.j2 (k + 1) y0 y1 y2 y3))
 | 0 => ⟨fun _ _ _ _ _ _ _ _ _ _ _ _ _ _ _ r h => by simp [laws_FnExactJoinMeanders.j0] at h, fun _ _ _ _ _ _ _ _ _ _ r h => by simp [laws_FnExactJoinMeanders.j1] at h, fun _ _ _ _ r h => by simp [laws_FnExactJoinMeanders.j2] at h⟩
 | k + 1 => by
  obtain ⟨ih0, ih1, ih2⟩ := laws_FnExactJoinMeanders.mono_l k
  refine ⟨?_, ?_, ?_⟩
  ·intro y0 y1 y2 y3 y4 y5 y6 y7 y8 y9 y10 y11 y12 y13 y14
   unfold laws_FnExactJoinMeanders.j0
   repeat' first
   | (with_reducible exact ih0 _ _ _ _ _ _ _ _ _ _ _ _ _ _ _)
   | (with_reducible exact ih1 _ _ _ _ _ _ _ _ _ _)
   | (with_reducible exact ih2 _ _ _ _)
   | (with_reducible exact impl_JoinMeanders.mono _ _ _ _ _)
   | (with_reducible exact laws_eqMeander.mono _ _ _ _ _)
   | (with_reducible exact laws_heldMeander.mono _ _ _ _)
   | (with_reducible exact laws_markMeander.mono _ _ _ _)
   | (with_reducible exact laws_toMeander.mono _ _ _)
   | (with_reducible exact spec_JoinMeanders.mono _ _ _ _ _)
   | (with_reducible exact LeO.refl _)
   | (with_reducible exact LeO.none _)
   | (with_reducible refine LeO.ite ?_ ?_)
   | (with_reducible refine LeO.bind ?_ (fun _ => ?_))
   | exact ih0 _ _ _ _ _ _ _ _ _ _ _ _ _ _ _
   | exact ih1 _ _ _ _ _ _ _ _ _ _
   | exact ih2 _ _ _ _
   | exact impl_JoinMeanders.mono _ _ _ _ _
   | exact laws_eqMeander.mono _ _ _ _ _
   | exact laws_heldMeander.mono _ _ _ _
   | exact laws_markMeander.mono _ _ _ _
   | exact laws_toMeander.mono _ _ _
   | exact spec_JoinMeanders.mono _ _ _ _ _
   | exact LeO.none _
   | refine LeO.ite ?_ ?_
   | refine LeO.bind ?_ (fun _ => ?_)
  ·intro y0 y1 y2 y3 y4 y5 y6 y7 y8 y9
   unfold laws_FnExactJoinMeanders.j1
   repeat' first
   | (with_reducible exact ih0 _ _ _ _ _ _ _ _ _ _ _ _ _ _ _)
   | (with_reducible exact ih1 _ _ _ _ _ _ _ _ _ _)
   | (with_reducible exact ih2 _ _ _ _)
   | (with_reducible exact impl_JoinMeanders.mono _ _ _ _ _)
   | (with_reducible exact laws_eqMeander.mono _ _ _ _ _)
   | (with_reducible exact laws_heldMeander.mono _ _ _ _)
   | (with_reducible exact laws_markMeander.mono _ _ _ _)
   | (with_reducible exact laws_toMeander.mono _ _ _)
   | (with_reducible exact spec_JoinMeanders.mono _ _ _ _ _)
   | (with_reducible exact LeO.refl _)
   | (with_reducible exact LeO.none _)
   | (with_reducible refine LeO.ite ?_ ?_)
   | (with_reducible refine LeO.bind ?_ (fun _ => ?_))
   | exact ih0 _ _ _ _ _ _ _ _ _ _ _ _ _ _ _
   | exact ih1 _ _ _ _ _ _ _ _ _ _
   | exact ih2 _ _ _ _
   | exact impl_JoinMeanders.mono _ _ _ _ _
   | exact laws_eqMeander.mono _ _ _ _ _
   | exact laws_heldMeander.mono _ _ _ _
   | exact laws_markMeander.mono _ _ _ _
   | exact laws_toMeander.mono _ _ _
   | exact spec_JoinMeanders.mono _ _ _ _ _
   | exact LeO.none _
   | refine LeO.ite ?_ ?_
   | refine LeO.bind ?_ (fun _ => ?_)
  ·intro y0 y1 y2 y3
   unfold laws_FnExactJoinMeanders.j2
   repeat' first
   | (with_reducible exact ih0 _ _ _ _ _ _ _ _ _ _ _ _ _ _ _)
   | (with_reducible exact ih1 _ _ _ _ _ _ _ _ _ _)
   | (with_reducible exact ih2 _ _ _ _)
   | (with_reducible exact impl_JoinMeanders.mono _ _ _ _ _)
   | (with_reducible exact laws_eqMeander.mono _ _ _ _ _)
   | (with_reducible exact laws_heldMeander.mono _ _ _ _)
   | (with_reducible exact laws_markMeander.mono _ _ _ _)
   | (with_reducible exact laws_toMeander.mono _ _ _)
   | (with_reducible exact spec_JoinMeanders.mono _ _ _ _ _)
   | (with_reducible exact LeO.refl _)
   | (with_reducible exact LeO.none _)
   | (with_reducible refine LeO.ite ?_ ?_)
   | (with_reducible refine LeO.bind ?_ (fun _ => ?_))
   | exact ih0 _ _ _ _ _ _ _ _ _ _ _ _ _ _ _
   | exact ih1 _ _ _ _ _ _ _ _ _ _
   | exact ih2 _ _ _ _
   | exact impl_JoinMeanders.mono _ _ _ _ _
   | exact laws_eqMeander.mono _ _ _ _ _
   | exact laws_heldMeander.mono _ _ _ _
   | exact laws_markMeander.mono _ _ _ _
   | exact laws_toMeander.mono _ _ _
   | exact spec_JoinMeanders.mono _ _ _ _ _
   | exact LeO.none _
   | refine LeO.ite ?_ ?_
   | refine LeO.bind ?_ (fun _ => ?_)
theorem laws_FnExactJoinMeanders.mono : ∀ a0 a1 a2 a3 k, LeO (laws_FnExactJoinMeanders.f k a0 a1 a2 a3) (laws_FnExactJoinMeanders.f (k + 1) a0 a1 a2 a3) := by
 intro a0 a1 a2 a3 k
 obtain ⟨ih0, ih1, ih2⟩ := laws_FnExactJoinMeanders.mono_l k
 unfold laws_FnExactJoinMeanders.f
 repeat' first
   | (with_reducible exact ih0 _ _ _ _ _ _ _ _ _ _ _ _ _ _ _)
   | (with_reducible exact ih1 _ _ _ _ _ _ _ _ _ _)
   | (with_reducible exact ih2 _ _ _ _)
   | (with_reducible exact impl_JoinMeanders.mono _ _ _ _ _)
   | (with_reducible exact laws_eqMeander.mono _ _ _ _ _)
   | (with_reducible exact laws_heldMeander.mono _ _ _ _)
   | (with_reducible exact laws_markMeander.mono _ _ _ _)
   | (with_reducible exact laws_toMeander.mono _ _ _)
   | (with_reducible exact spec_JoinMeanders.mono _ _ _ _ _)
   | (with_reducible exact LeO.refl _)
   | (with_reducible exact LeO.none _)
   | (with_reducible refine LeO.ite ?_ ?_)
   | (with_reducible refine LeO.bind ?_ (fun _ => ?_))
   | exact ih0 _ _ _ _ _ _ _ _ _ _ _ _ _ _ _
   | exact ih1 _ _ _ _ _ _ _ _ _ _
   | exact ih2 _ _ _ _
   | exact impl_JoinMeanders.mono _ _ _ _ _
   | exact laws_eqMeander.mono _ _ _ _ _
   | exact laws_heldMeander.mono _ _ _ _
   | exact laws_markMeander.mono _ _ _ _
   | exact laws_toMeander.mono _ _ _
   | exact spec_JoinMeanders.mono _ _ _ _ _
   | exact LeO.none _
   | refine LeO.ite ?_ ?_
   | refine LeO.bind ?_ (fun _ => ?_)
def laws_FnExactJoinMeanders.T8 : Bool × List (List Nat × List Nat) := (true, [([], []), ([0], [0]), ([], []), ([2, 1], [2]), ([1, 3, 3], [1, 3]), ([4], [4]), ([5], [5]), ([5], [5]), ([], []), ([8, 6, 4, 0, 1, 2, 3, 4, 5, 6, 8], [6, 8]), ([7, 9, 0, 1, 2, 3, 4, 5, 6, 7, 8, 9], [7])])
def laws_FnExactJoinMeanders.B8 : List Nat := [0, 1, 0, 7, 15, 31, 63, 63, 0, 383, 1023]
theorem laws_FnExactJoinMeanders.tab8 : rtab .any (opsOf Try.f3 8) = laws_FnExactJoinMeanders.T8 := by kernel_rfl
theorem laws_FnExactJoinMeanders.bits8 : waitsOk laws_FnExactJoinMeanders.T8.2 laws_FnExactJoinMeanders.B8 = true := by kernel_rfl
def laws_FnExactJoinMeanders.T31 : Bool × List (List Nat × List Nat) := (true, [([], []), ([0], [0]), ([], []), ([2, 1], [2]), ([1, 3, 3], [1, 3]), ([4], [4]), ([5], [5]), ([5], [5]), ([], []), ([8, 6, 4, 0, 1, 2, 3, 4, 5, 6, 8], [6, 8]), ([7, 9, 0, 1, 2, 3, 4, 5, 6, 7, 8, 9], [7])])
def laws_FnExactJoinMeanders.B31 : List Nat := [0, 1, 0, 7, 15, 31, 63, 63, 0, 383, 1023]
theorem laws_FnExactJoinMeanders.tab31 : rtab .any (opsOf Try.f3 31) = laws_FnExactJoinMeanders.T31 := by kernel_rfl
theorem laws_FnExactJoinMeanders.bits31 : waitsOk laws_FnExactJoinMeanders.T31.2 laws_FnExactJoinMeanders.B31 = true := by kernel_rfl
theorem laws_FnExactJoinMeanders.j0_no : ∀ k y0 y1 y2 y3 y4 y5 y6 y7 y8 y9 y10 y11 y12 y13, ¬ laws_FnExactJoinMeanders.j0 k y0 y1 true y2 y3 y4 y5 y6 y7 y8 y9 y10 y11 y12 y13 = some true
 | 0, _, _, _, _, _, _, _, _, _, _, _, _, _, _ => by simp [laws_FnExactJoinMeanders.j0]
 | k + 1, _, _, _, _, _, _, _, _, _, _, _, _, _, _ => by simp [laws_FnExactJoinMeanders.j0]
theorem laws_FnExactJoinMeanders.j1_no : ∀ k y0 y1 y2 y3 y4 y5 y6 y7 y8, ¬ laws_FnExactJoinMeanders.j1 k y0 true y1 y2 y3 y4 y5 y6 y7 y8 = some true
 | 0, _, _, _, _, _, _, _, _, _ => by simp [laws_FnExactJoinMeanders.j1]
 | k + 1, _, _, _, _, _, _, _, _, _ => by simp [laws_FnExactJoinMeanders.j1]
theorem laws_FnExactJoinMeanders.j2_no : ∀ k y0 y1 y2, ¬ laws_FnExactJoinMeanders.j2 k y0 true y1 y2 = some true
 | 0, _, _, _ => by simp [laws_FnExactJoinMeanders.j2]
 | k + 1, _, _, _ => by simp [laws_FnExactJoinMeanders.j2]

end Go.Proofs.Ytakdhnhncmkigaa.QFnExactJoinMeanders
