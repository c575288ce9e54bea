-- Written by wip/myprint.py (a program of mine round the kit's printer). Lean checks it.
import Derived.Test.YtbjdhipkdcfmlaaQFnExactPairOfStepsx0
import Derived.Test.YtbjdhipkdcfmlaaQFnExactPairOfStepsx1
import Derived.Test.YtbjdhipkdcfmlaaQFnExactPairOfStepsx2
import Derived.Test.YtbjdhipkdcfmlaaQFnExactPairOfStepsx4
import Derived.Test.YtbjdhipkdcfmlaaQFnExactPairOfStepsx5
namespace Go.Proofs.Ytbjdhipkdcfmlaa.QFnExactPairOfSteps
open Go.RowKit Go.Proofs.YtbjdhipkdcfmlaaW.PrintWords Go.Proofs.YtbjdhipkdcfmlaaW.PrintLast Go.Proofs.YtbjdhipkdcfmlaaW.PrintMore
attribute [local go_sem] max2_int min2_int max_two min_two max_three min_three max_four min_four   -- for this text's walks alone
set_option linter.unusedVariables false
set_option linter.unusedSimpArgs false

/-! ### laws_FnExactPairOfSteps: function 5 -/
mutual
def laws_FnExactPairOfSteps.j0 : Nat → List Int → Bool → List Int → Bool → Bool → List Int → List Int → List Int → List Int → Option (Bool)
  | 0, _, _, _, _, _, _, _, _, _ => none
  | k + 1, x0, x4, x5, x7, x37, x229000, x229001, x240000, x240001 => if x37 = true then (some false) else ((laws_toIntS.f k x0).bind fun t241 => ((laws_eqIntS.f k x5 t241).bind fun t244 => (if t244 = true then ((laws_markIntS.f k x5 1).bind fun bt245 => (if bt245.1 < 0 then (laws_FnExactPairOfSteps.j1 k x0 x4 true x229000 x229001 x240000 x240001) else ((laws_eqMeander.f k x240000 x240001 x229000 x229001).bind fun t247 => (if t247 = true then (laws_FnExactPairOfSteps.j1 k x0 x4 (x7 != x4) x229000 x229001 x240000 x240001) else (laws_FnExactPairOfSteps.j1 k x0 x4 true x229000 x229001 x240000 x240001))))) else (some false))))
def laws_FnExactPairOfSteps.j1 : Nat → List Int → Bool → Bool → List Int → List Int → List Int → List Int → Option (Bool)
  | 0, _, _, _, _, _, _, _ => none
  | k + 1, x0, x4, x58, x229000, x229001, x240000, x240001 => if x58 = true then (some false) else ((laws_markMeander.f k x240000 x240001 1).bind fun bt248 => ((laws_heldMeander.f k bt248.2.1 bt248.2.2 1).bind fun t251 => (if t251 < 0 then (some false) else (if t251 = bt248.1 then ((laws_toIntS.f k x0).bind fun t252 => ((impl_PairOfSteps.f k t252).bind fun bt255 => ((laws_eqMeander.f k bt255.1 bt255.2.1 x229000 x229001).bind fun t263 => (if t263 = true then (laws_FnExactPairOfSteps.j2 k bt248.1 (bt255.2.2 != x4) bt248.2.1 bt248.2.2) else (laws_FnExactPairOfSteps.j2 k bt248.1 true bt248.2.1 bt248.2.2))))) else (some false)))))
def laws_FnExactPairOfSteps.j2 : Nat → Int → Bool → List Int → List Int → Option (Bool)
  | 0, _, _, _, _ => none
  | k + 1, x9, x84, x240000, x240001 => if x84 = true then (some false) else ((laws_heldMeander.f k x240000 x240001 1).bind fun t264 => (if t264 < 0 then (some false) else (if t264 = x9 then (some true) else (some false))))
end
def laws_FnExactPairOfSteps.f (k : Nat) (l0 : List Int) : Option (Bool) := if (l0.length : Int) > 1048576 then (some true) else ((laws_toIntS.f k l0).bind fun t218 => ((spec_PairOfSteps.f k t218).bind fun bt221 => ((laws_toIntS.f k l0).bind fun t229 => ((impl_PairOfSteps.f k t229).bind fun bt232 => ((laws_eqMeander.f k bt232.1 bt232.2.1 bt221.1 bt221.2.1).bind fun t240 => (if t240 = true then (laws_FnExactPairOfSteps.j0 k l0 bt221.2.2 t229 bt232.2.2 (bt232.2.2 != bt221.2.2) bt221.1 bt221.2.1 bt232.1 bt232.2.1) else (laws_FnExactPairOfSteps.j0 k l0 bt221.2.2 t229 bt232.2.2 true bt221.1 bt221.2.1 bt232.1 bt232.2.1)))))))
theorem laws_FnExactPairOfSteps.mono_l : ∀ k, (∀ y0 y1 y2 y3 y4 y5 y6 y7 y8, LeO (laws_FnExactPairOfSteps.j0 k y0 y1 y2 y3 y4 y5 y6 y7 y8) (laws_FnExactPairOfSteps.j0 (k + 1) y0 y1 y2 y3 y4 y5 y6 y7 y8)) ∧ (∀ y0 y1 y2 y3 y4 y5 y6, LeO (laws_FnExactPairOfSteps.j1 k y0 y1 y2 y3 y4 y5 y6) (laws_FnExactPairOfSteps.j1 (k + 1) y0 y1 y2 y3 y4 y5 y6)) ∧ (∀ y0 y1 y2 y3, LeO (laws_FnExactPairOfSteps.j2 k y0 y1 y2 y3) (laws_FnExactPairOfSteps.j2 (k + 1) y0 y1 y2 y3))
  | 0 => ⟨fun _ _ _ _ _ _ _ _ _ r h => by simp [laws_FnExactPairOfSteps.j0] at h, fun _ _ _ _ _ _ _ r h => by simp [laws_FnExactPairOfSteps.j1] at h, fun _ _ _ _ r h => by simp [laws_FnExactPairOfSteps.j2] at h⟩
  | k + 1 => by
    obtain ⟨ih0, ih1, ih2⟩ := laws_FnExactPairOfSteps.mono_l k
    refine ⟨?_, ?_, ?_⟩
    · intro y0 y1 y2 y3 y4 y5 y6 y7 y8
      unfold laws_FnExactPairOfSteps.j0
      repeat' first
      | (with_reducible exact ih0 _ _ _ _ _ _ _ _ _)
      | (with_reducible exact ih1 _ _ _ _ _ _ _)
      | (with_reducible exact ih2 _ _ _ _)
      | (with_reducible exact impl_PairOfSteps.mono _ _)
      | (with_reducible exact laws_eqIntS.mono _ _ _)
      | (with_reducible exact laws_eqMeander.mono _ _ _ _ _)
      | (with_reducible exact laws_heldMeander.mono _ _ _ _)
      | (with_reducible exact laws_markIntS.mono _ _ _)
      | (with_reducible exact laws_markMeander.mono _ _ _ _)
      | (with_reducible exact laws_toIntS.mono _ _)
      | (with_reducible exact spec_PairOfSteps.mono _ _)
      | (with_reducible exact LeO.refl _)
      | (with_reducible exact LeO.none _)
      | (with_reducible refine LeO.ite ?_ ?_)
      | (with_reducible refine LeO.bind ?_ (fun _ => ?_))
      | exact ih0 _ _ _ _ _ _ _ _ _
      | exact ih1 _ _ _ _ _ _ _
      | exact ih2 _ _ _ _
      | exact impl_PairOfSteps.mono _ _
      | exact laws_eqIntS.mono _ _ _
      | exact laws_eqMeander.mono _ _ _ _ _
      | exact laws_heldMeander.mono _ _ _ _
      | exact laws_markIntS.mono _ _ _
      | exact laws_markMeander.mono _ _ _ _
      | exact laws_toIntS.mono _ _
      | exact spec_PairOfSteps.mono _ _
      | exact LeO.none _
      | refine LeO.ite ?_ ?_
      | refine LeO.bind ?_ (fun _ => ?_)
    · intro y0 y1 y2 y3 y4 y5 y6
      unfold laws_FnExactPairOfSteps.j1
      repeat' first
      | (with_reducible exact ih0 _ _ _ _ _ _ _ _ _)
      | (with_reducible exact ih1 _ _ _ _ _ _ _)
      | (with_reducible exact ih2 _ _ _ _)
      | (with_reducible exact impl_PairOfSteps.mono _ _)
      | (with_reducible exact laws_eqIntS.mono _ _ _)
      | (with_reducible exact laws_eqMeander.mono _ _ _ _ _)
      | (with_reducible exact laws_heldMeander.mono _ _ _ _)
      | (with_reducible exact laws_markIntS.mono _ _ _)
      | (with_reducible exact laws_markMeander.mono _ _ _ _)
      | (with_reducible exact laws_toIntS.mono _ _)
      | (with_reducible exact spec_PairOfSteps.mono _ _)
      | (with_reducible exact LeO.refl _)
      | (with_reducible exact LeO.none _)
      | (with_reducible refine LeO.ite ?_ ?_)
      | (with_reducible refine LeO.bind ?_ (fun _ => ?_))
      | exact ih0 _ _ _ _ _ _ _ _ _
      | exact ih1 _ _ _ _ _ _ _
      | exact ih2 _ _ _ _
      | exact impl_PairOfSteps.mono _ _
      | exact laws_eqIntS.mono _ _ _
      | exact laws_eqMeander.mono _ _ _ _ _
      | exact laws_heldMeander.mono _ _ _ _
      | exact laws_markIntS.mono _ _ _
      | exact laws_markMeander.mono _ _ _ _
      | exact laws_toIntS.mono _ _
      | exact spec_PairOfSteps.mono _ _
      | exact LeO.none _
      | refine LeO.ite ?_ ?_
      | refine LeO.bind ?_ (fun _ => ?_)
    · intro y0 y1 y2 y3
      unfold laws_FnExactPairOfSteps.j2
      repeat' first
      | (with_reducible exact ih0 _ _ _ _ _ _ _ _ _)
      | (with_reducible exact ih1 _ _ _ _ _ _ _)
      | (with_reducible exact ih2 _ _ _ _)
      | (with_reducible exact impl_PairOfSteps.mono _ _)
      | (with_reducible exact laws_eqIntS.mono _ _ _)
      | (with_reducible exact laws_eqMeander.mono _ _ _ _ _)
      | (with_reducible exact laws_heldMeander.mono _ _ _ _)
      | (with_reducible exact laws_markIntS.mono _ _ _)
      | (with_reducible exact laws_markMeander.mono _ _ _ _)
      | (with_reducible exact laws_toIntS.mono _ _)
      | (with_reducible exact spec_PairOfSteps.mono _ _)
      | (with_reducible exact LeO.refl _)
      | (with_reducible exact LeO.none _)
      | (with_reducible refine LeO.ite ?_ ?_)
      | (with_reducible refine LeO.bind ?_ (fun _ => ?_))
      | exact ih0 _ _ _ _ _ _ _ _ _
      | exact ih1 _ _ _ _ _ _ _
      | exact ih2 _ _ _ _
      | exact impl_PairOfSteps.mono _ _
      | exact laws_eqIntS.mono _ _ _
      | exact laws_eqMeander.mono _ _ _ _ _
      | exact laws_heldMeander.mono _ _ _ _
      | exact laws_markIntS.mono _ _ _
      | exact laws_markMeander.mono _ _ _ _
      | exact laws_toIntS.mono _ _
      | exact spec_PairOfSteps.mono _ _
      | exact LeO.none _
      | refine LeO.ite ?_ ?_
      | refine LeO.bind ?_ (fun _ => ?_)
theorem laws_FnExactPairOfSteps.mono : ∀ a0 k, LeO (laws_FnExactPairOfSteps.f k a0) (laws_FnExactPairOfSteps.f (k + 1) a0) := by
  intro a0 k
  obtain ⟨ih0, ih1, ih2⟩ := laws_FnExactPairOfSteps.mono_l k
  unfold laws_FnExactPairOfSteps.f
  repeat' first
      | (with_reducible exact ih0 _ _ _ _ _ _ _ _ _)
      | (with_reducible exact ih1 _ _ _ _ _ _ _)
      | (with_reducible exact ih2 _ _ _ _)
      | (with_reducible exact impl_PairOfSteps.mono _ _)
      | (with_reducible exact laws_eqIntS.mono _ _ _)
      | (with_reducible exact laws_eqMeander.mono _ _ _ _ _)
      | (with_reducible exact laws_heldMeander.mono _ _ _ _)
      | (with_reducible exact laws_markIntS.mono _ _ _)
      | (with_reducible exact laws_markMeander.mono _ _ _ _)
      | (with_reducible exact laws_toIntS.mono _ _)
      | (with_reducible exact spec_PairOfSteps.mono _ _)
      | (with_reducible exact LeO.refl _)
      | (with_reducible exact LeO.none _)
      | (with_reducible refine LeO.ite ?_ ?_)
      | (with_reducible refine LeO.bind ?_ (fun _ => ?_))
      | exact ih0 _ _ _ _ _ _ _ _ _
      | exact ih1 _ _ _ _ _ _ _
      | exact ih2 _ _ _ _
      | exact impl_PairOfSteps.mono _ _
      | exact laws_eqIntS.mono _ _ _
      | exact laws_eqMeander.mono _ _ _ _ _
      | exact laws_heldMeander.mono _ _ _ _
      | exact laws_markIntS.mono _ _ _
      | exact laws_markMeander.mono _ _ _ _
      | exact laws_toIntS.mono _ _
      | exact spec_PairOfSteps.mono _ _
      | exact LeO.none _
      | refine LeO.ite ?_ ?_
      | refine LeO.bind ?_ (fun _ => ?_)
theorem laws_FnExactPairOfSteps.j0_no : ∀ k y0 y1 y2 y3 y4 y5 y6 y7, ¬ laws_FnExactPairOfSteps.j0 k y0 y1 y2 y3 true y4 y5 y6 y7 = some true
  | 0, _, _, _, _, _, _, _, _ => by simp [laws_FnExactPairOfSteps.j0]
  | k + 1, _, _, _, _, _, _, _, _ => by simp [laws_FnExactPairOfSteps.j0]
theorem laws_FnExactPairOfSteps.j1_no : ∀ k y0 y1 y2 y3 y4 y5, ¬ laws_FnExactPairOfSteps.j1 k y0 y1 true y2 y3 y4 y5 = some true
  | 0, _, _, _, _, _, _ => by simp [laws_FnExactPairOfSteps.j1]
  | k + 1, _, _, _, _, _, _ => by simp [laws_FnExactPairOfSteps.j1]
theorem laws_FnExactPairOfSteps.j2_no : ∀ k y0 y1 y2, ¬ laws_FnExactPairOfSteps.j2 k y0 true y1 y2 = some true
  | 0, _, _, _ => by simp [laws_FnExactPairOfSteps.j2]
  | k + 1, _, _, _ => by simp [laws_FnExactPairOfSteps.j2]
set_option maxHeartbeats 8000000 in
set_option maxRecDepth 100000 in
theorem laws_FnExactPairOfSteps.calls (k : Nat) (A0 : Option Addr) (c0 : Nat) (l0 : List Int) (r : Bool) (w : World) (hr0 : Kd.C (Kd.int .i64) w A0 l0.length l0) (hc0 : l0.length ≤ c0) (hr_ : r = true) (h : laws_FnExactPairOfSteps.f k l0 = some r) :
    Calls Try.prog 5 #[.slice A0 l0.length c0] w fun e w' => e = .returned (.bool r) ∧ Below w.heap.size w w' := by
  have hu34 := Try.underlying34
  have HR0 := Aside0.mk hr0
  have HC0 := Aside0.mk hc0
  clear hr0 hc0
  have HB := Aside0.mk (Below.refl w.heap.size w)
  have H : (if (l0.length : Int) > 1048576 then (some true) else ((laws_toIntS.f k l0).bind fun t218 => ((spec_PairOfSteps.f k t218).bind fun bt221 => ((laws_toIntS.f k l0).bind fun t229 => ((impl_PairOfSteps.f k t229).bind fun bt232 => ((laws_eqMeander.f k bt232.1 bt232.2.1 bt221.1 bt221.2.1).bind fun t240 => (if t240 = true then (laws_FnExactPairOfSteps.j0 k l0 bt221.2.2 t229 bt232.2.2 (bt232.2.2 != bt221.2.2) bt221.1 bt221.2.1 bt232.1 bt232.2.1) else (laws_FnExactPairOfSteps.j0 k l0 bt221.2.2 t229 bt232.2.2 true bt221.1 bt221.2.1 bt232.1 bt232.2.1)))))))) = some r := h
  clear h
  by_cases c2 : (l0.length : Int) > 1048576
  · rw [if_pos c2] at H
    have c2b0 : decide (1048576 < (l0.length : Int)) = true := decide_eq_true c2
    have c2b1 : decide (1048576 < l0.length) = true := decide_eq_true (by omega)
    clear c2
    obtain rfl := Option.some.inj H
    go_enter Try.func5, Try.ntmps5
    go_wp2
    go_ret
    exact ⟨by first | rfl | (simp [errW_none, errW_some] <;> rfl) | (simp [*, errW_none, errW_some] <;> rfl), by repeat (first | exact HB.out | apply below_alloc | apply pw_below_drewN | apply below_drew1)⟩
  · rw [if_neg c2] at H
    have c2b0 : decide (1048576 < (l0.length : Int)) = false := decide_eq_false c2
    have c2b1 : decide (1048576 < l0.length) = false := decide_eq_false (by omega)
    clear c2
    replace H := Option.bind_eq_some_iff.mp H
    obtain ⟨t218, A30, H⟩ := H
    replace H : ((spec_PairOfSteps.f k t218).bind fun bt221 => ((laws_toIntS.f k l0).bind fun t229 => ((impl_PairOfSteps.f k t229).bind fun bt232 => ((laws_eqMeander.f k bt232.1 bt232.2.1 bt221.1 bt221.2.1).bind fun t240 => (if t240 = true then (laws_FnExactPairOfSteps.j0 k l0 bt221.2.2 t229 bt232.2.2 (bt232.2.2 != bt221.2.2) bt221.1 bt221.2.1 bt232.1 bt232.2.1) else (laws_FnExactPairOfSteps.j0 k l0 bt221.2.2 t229 bt232.2.2 true bt221.1 bt221.2.1 bt232.1 bt232.2.1)))))) = some r := H
    have A3 := Aside0.mk A30
    clear A30
    replace H := Option.bind_eq_some_iff.mp H
    obtain ⟨⟨t221, t224, t227⟩, A40, H⟩ := H
    replace H : ((laws_toIntS.f k l0).bind fun t229 => ((impl_PairOfSteps.f k t229).bind fun bt232 => ((laws_eqMeander.f k bt232.1 bt232.2.1 t221 t224).bind fun t240 => (if t240 = true then (laws_FnExactPairOfSteps.j0 k l0 t227 t229 bt232.2.2 (bt232.2.2 != t227) t221 t224 bt232.1 bt232.2.1) else (laws_FnExactPairOfSteps.j0 k l0 t227 t229 bt232.2.2 true t221 t224 bt232.1 bt232.2.1))))) = some r := H
    have A4 := Aside0.mk A40
    clear A40
    replace H := Option.bind_eq_some_iff.mp H
    obtain ⟨t229, A50, H⟩ := H
    replace H : ((impl_PairOfSteps.f k t229).bind fun bt232 => ((laws_eqMeander.f k bt232.1 bt232.2.1 t221 t224).bind fun t240 => (if t240 = true then (laws_FnExactPairOfSteps.j0 k l0 t227 t229 bt232.2.2 (bt232.2.2 != t227) t221 t224 bt232.1 bt232.2.1) else (laws_FnExactPairOfSteps.j0 k l0 t227 t229 bt232.2.2 true t221 t224 bt232.1 bt232.2.1)))) = some r := H
    have A5 := Aside0.mk A50
    clear A50
    replace H := Option.bind_eq_some_iff.mp H
    obtain ⟨⟨t232, t235, t238⟩, A60, H⟩ := H
    replace H : ((laws_eqMeander.f k t232 t235 t221 t224).bind fun t240 => (if t240 = true then (laws_FnExactPairOfSteps.j0 k l0 t227 t229 t238 (t238 != t227) t221 t224 t232 t235) else (laws_FnExactPairOfSteps.j0 k l0 t227 t229 t238 true t221 t224 t232 t235))) = some r := H
    have A6 := Aside0.mk A60
    clear A60
    have HC7 := Aside0.mk H
    clear H
    go_enter Try.func5, Try.ntmps5
    go_upto_region 6 with (first | ((with_reducible refine gate_callee (f := 23) rfl ?_); refine goesL_ (some 18) rfl rfl Try.func23 (by kernel_rfl) rfl #[.slice A0 l0.length c0] rfl (by (try simp only [List.map_toArray, List.map_cons, List.map_nil]); first | done | rfl | (simp only [List.length_drop, List.length_take]; rfl)) ?_; (with_reducible refine (laws_toIntS.calls k _ _ l0 t218 _ ?side1 ?side2 A3.out).mono ?_); (case side1 => repeat (first | exact HR0.out | (with_reducible refine Kd.C_alloc ?_ _) | (with_reducible refine Kd.C_drewN ?_ _) | (with_reducible refine Kd.C_drew ?_))); (case side2 => exact HC0.out); rintro e w8 ⟨v219, rfl, ho0, hb⟩; refine ⟨_, rfl, ?_⟩; have n0_ := Aside0.mk (Kd.R_lower ho0 (below_size (by repeat (first | exact HB.out | apply below_alloc | apply pw_below_drewN | apply below_drew1)))); have n1_ := Aside0.mk (below_step (by repeat (first | exact HB.out | apply below_alloc | apply pw_below_drewN | apply below_drew1)) hb); clear HB; have HO220 := n0_; have HB := n1_; clear n0_ n1_; (try clear hb); (try clear hb2); (try clear hk); (try clear hi); (try clear ho0); obtain ⟨Ao9, co9, eo9⟩ := Kd.R_slice HO220.out; subst eo9) | ((with_reducible refine gate_callee (f := 22) rfl ?_); refine goesL_ (some 19) rfl rfl Try.func22 (by kernel_rfl) rfl #[.slice Ao9 t218.length co9] rfl (by (try simp only [List.map_toArray, List.map_cons, List.map_nil]); first | done | rfl | (simp only [List.length_drop, List.length_take]; rfl)) ?_; (with_reducible refine (spec_PairOfSteps.calls k _ _ t218 t221 t224 t227 _ ?side1 ?side2 A4.out).mono ?_); (case side1 => repeat (first | exact (Kd.R_reads' HO220.out).2.2 | (with_reducible refine Kd.C_alloc ?_ _) | (with_reducible refine Kd.C_drewN ?_ _) | (with_reducible refine Kd.C_drew ?_))); (case side2 => exact (Kd.R_reads' HO220.out).2.1); rintro e w10 ⟨v222, v225, rfl, ho0, ho1, hb⟩; refine ⟨_, rfl, ?_⟩; have n0_ := Aside0.mk (Kd.R_mono (Kd.R_told (Kd.R_told (Kd.R_old (by (with_reducible repeat (first | apply Kd.R_alloc | apply Kd.R_drewN | apply Kd.R_drew)); exact HO220.out) hb) (Kd.R_base ho0)) (Kd.R_base ho1)) (fun _ h_ => h_.1)); have n1_ := Aside0.mk (Kd.R_lower (Kd.R_new' ho0 (Kd.R_lt (by (with_reducible repeat (first | apply Kd.R_alloc | apply Kd.R_drewN | apply Kd.R_drew)); exact HO220.out))) (below_size (by repeat (first | exact HB.out | apply below_alloc | apply pw_below_drewN | apply below_drew1)))); have n2_ := Aside0.mk (Kd.R_lower (Kd.R_new' ho1 (Kd.R_lt (by (with_reducible repeat (first | apply Kd.R_alloc | apply Kd.R_drewN | apply Kd.R_drew)); exact HO220.out))) (below_size (by repeat (first | exact HB.out | apply below_alloc | apply pw_below_drewN | apply below_drew1)))); have n3_ := Aside0.mk (below_step (by repeat (first | exact HB.out | apply below_alloc | apply pw_below_drewN | apply below_drew1)) hb); clear HO220; clear HB; have HO220 := n0_; have HO223 := n1_; have HO226 := n2_; have HB := n3_; clear n0_ n1_ n2_ n3_; (try clear hb); (try clear hb2); (try clear hk); (try clear hi); (try clear ho0); (try clear ho1)) | ((with_reducible refine gate_dst (N := 3) rfl ?_); refine box_event ?hg (N := 3) ?hd (cs := #[.slice none 0 0, .slice none 0 0]) (t := 34) ?hr ?_; (case hd => rfl); (case hg => rfl); (case hr => first | (go_simp; done) | (go_simp; rfl)); intro gb228 hg w11 hbox hb; have n0_ := Aside0.mk (Kd.R_below (by (with_reducible repeat (first | apply Kd.R_alloc | apply Kd.R_drewN | apply Kd.R_drew)); exact HO220.out) hb); have n1_ := Aside0.mk (Kd.R_below (by (with_reducible repeat (first | apply Kd.R_alloc | apply Kd.R_drewN | apply Kd.R_drew)); exact HO223.out) hb); have n2_ := Aside0.mk (Kd.R_below (by (with_reducible repeat (first | apply Kd.R_alloc | apply Kd.R_drewN | apply Kd.R_drew)); exact HO226.out) hb); have n3_ := Aside0.mk (below_step (by repeat (first | exact HB.out | apply below_alloc | apply pw_below_drewN | apply below_drew1)) hb); have n4_ := Aside0.mk (hbox); have n5_ := Aside0.mk ((by rw [hg]; exact (below_size (by repeat (first | exact HB.out | apply below_alloc | apply pw_below_drewN | apply below_drew1))) : w.heap.size ≤ gb228)); have n6_ := Aside0.mk ((by rw [hg]; exact (below_size (by repeat (first | exact HB.out | apply below_alloc | apply pw_below_drewN | apply below_drew1))) : w.heap.size ≤ gb228)); clear HO220; clear HO223; clear HO226; clear HB; have HO220 := n0_; have HO223 := n1_; have HO226 := n2_; have HB := n3_; have BK228 := n4_; have GW228 := n5_; have GE228 := n6_; clear n0_ n1_ n2_ n3_ n4_ n5_ n6_; clear hb hbox hg; obtain ⟨Ao12, co12, eo12⟩ := Kd.R_slice HO223.out; subst eo12; have hcz13_0 : w11.cell? ⟨gb228, 0, none⟩ = some (.slice none 0 0) := (blk_cell BK228.out 0).trans rfl; have hcz13_1 : w11.cell? ⟨gb228, 1, none⟩ = some (.slice none 0 0) := (blk_cell BK228.out 1).trans rfl; have hfz13_0 := blk_frozen BK228.out 0; have hfz13_1 := blk_frozen BK228.out 1; obtain ⟨Ao14, co14, eo14⟩ := Kd.R_slice HO226.out; subst eo14) | ((with_reducible refine gate_callee (f := 23) rfl ?_); refine goesL_ (some 23) rfl rfl Try.func23 (by kernel_rfl) rfl #[.slice A0 l0.length c0] rfl (by (try simp only [List.map_toArray, List.map_cons, List.map_nil]); first | done | rfl | (simp only [List.length_drop, List.length_take]; rfl)) ?_; (with_reducible refine (laws_toIntS.calls k _ _ l0 t229 _ ?side1 ?side2 A5.out).mono ?_); (case side1 => exact Kd.C_below HR0.out (by repeat (first | (with_reducible first | exact HB.out | apply below_alloc | apply pw_below_drewN | apply below_drew1 | refine below_set ?_ GE228.out) | exact HB.out))); (case side2 => exact HC0.out); rintro e w15 ⟨v230, rfl, ho0, hb⟩; refine ⟨_, rfl, ?_⟩; have n0_ := Aside0.mk (Kd.R_elder' (by (with_reducible repeat (first | apply Kd.R_alloc | apply Kd.R_drewN | apply Kd.R_drew)); exact (Kd.R_mono (Kd.R_far (p := ⟨gb228, 1, none⟩) (Kd.R_far (p := ⟨gb228, 0, none⟩) (Kd.R_types HO220.out BK228.out (by decide)) (fun _ hk => hk.2) (.slice Ao12 t221.length co12)) (fun _ hk => hk.2) (.slice Ao14 t224.length co14)) (fun _ h_ => h_.1))) (Kd.R_base ho0) hb); have n1_ := Aside0.mk (Kd.R_elder' (by (with_reducible repeat (first | apply Kd.R_alloc | apply Kd.R_drewN | apply Kd.R_drew)); exact (Kd.R_mono (Kd.R_far (p := ⟨gb228, 1, none⟩) (Kd.R_far (p := ⟨gb228, 0, none⟩) (Kd.R_types HO223.out BK228.out (by decide)) (fun _ hk => hk.2) (.slice Ao12 t221.length co12)) (fun _ hk => hk.2) (.slice Ao14 t224.length co14)) (fun _ h_ => h_.1))) (Kd.R_base ho0) hb); have n2_ := Aside0.mk (Kd.R_elder' (by (with_reducible repeat (first | apply Kd.R_alloc | apply Kd.R_drewN | apply Kd.R_drew)); exact (Kd.R_mono (Kd.R_far (p := ⟨gb228, 1, none⟩) (Kd.R_far (p := ⟨gb228, 0, none⟩) (Kd.R_types HO226.out BK228.out (by decide)) (fun _ hk => hk.2) (.slice Ao12 t221.length co12)) (fun _ hk => hk.2) (.slice Ao14 t224.length co14)) (fun _ h_ => h_.1))) (Kd.R_base ho0) hb); have n3_ := Aside0.mk (Kd.R_lower (Kd.R_new' (Kd.R_new' (Kd.R_new' ho0 (Kd.R_lt (by (with_reducible repeat (first | apply Kd.R_alloc | apply Kd.R_drewN | apply Kd.R_drew)); exact (Kd.R_mono (Kd.R_far (p := ⟨gb228, 1, none⟩) (Kd.R_far (p := ⟨gb228, 0, none⟩) (Kd.R_types HO220.out BK228.out (by decide)) (fun _ hk => hk.2) (.slice Ao12 t221.length co12)) (fun _ hk => hk.2) (.slice Ao14 t224.length co14)) (fun _ h_ => h_.1))))) (Kd.R_lt (by (with_reducible repeat (first | apply Kd.R_alloc | apply Kd.R_drewN | apply Kd.R_drew)); exact (Kd.R_mono (Kd.R_far (p := ⟨gb228, 1, none⟩) (Kd.R_far (p := ⟨gb228, 0, none⟩) (Kd.R_types HO223.out BK228.out (by decide)) (fun _ hk => hk.2) (.slice Ao12 t221.length co12)) (fun _ hk => hk.2) (.slice Ao14 t224.length co14)) (fun _ h_ => h_.1))))) (Kd.R_lt (by (with_reducible repeat (first | apply Kd.R_alloc | apply Kd.R_drewN | apply Kd.R_drew)); exact (Kd.R_mono (Kd.R_far (p := ⟨gb228, 1, none⟩) (Kd.R_far (p := ⟨gb228, 0, none⟩) (Kd.R_types HO226.out BK228.out (by decide)) (fun _ hk => hk.2) (.slice Ao12 t221.length co12)) (fun _ hk => hk.2) (.slice Ao14 t224.length co14)) (fun _ h_ => h_.1))))) (below_size (by repeat (first | (with_reducible first | exact HB.out | apply below_alloc | apply pw_below_drewN | apply below_drew1 | refine below_set ?_ GE228.out) | exact HB.out)))); have n4_ := Aside0.mk (blk_below (g := gb228) (o := .cells #[.slice Ao12 t221.length co12, .slice Ao14 t224.length co14] 34 (0, 0)) (by (with_reducible repeat (first | refine blk_drewN ?_ _ | refine blk_drew ?_ | refine blk_alloc ?_ _)); refine blk_put (cs := #[.slice Ao12 t221.length co12, .slice none 0 0]) ?_ 1 _ rfl; (with_reducible repeat (first | refine blk_drewN ?_ _ | refine blk_drew ?_ | refine blk_alloc ?_ _)); refine blk_put (cs := #[.slice none 0 0, .slice none 0 0]) ?_ 0 _ rfl; (with_reducible repeat (first | refine blk_drewN ?_ _ | refine blk_drew ?_ | refine blk_alloc ?_ _)); exact BK228.out) hb); have n5_ := Aside0.mk (below_step (by repeat (first | (with_reducible first | exact HB.out | apply below_alloc | apply pw_below_drewN | apply below_drew1 | refine below_set ?_ GE228.out) | exact HB.out)) hb); clear HO220; clear HO223; clear HO226; clear BK228; clear HB; have HO220 := n0_; have HO223 := n1_; have HO226 := n2_; have HO231 := n3_; have BK228 := n4_; have HB := n5_; clear n0_ n1_ n2_ n3_ n4_ n5_; (try clear hb); (try clear hb2); (try clear hk); (try clear hi); (try clear ho0); obtain ⟨Ao16, co16, eo16⟩ := Kd.R_slice HO231.out; subst eo16) | ((with_reducible refine gate_callee (f := 24) rfl ?_); refine goesL_ (some 26) rfl rfl Try.func24 (by kernel_rfl) rfl #[.slice Ao16 t229.length co16] rfl (by (try simp only [List.map_toArray, List.map_cons, List.map_nil]); first | done | rfl | (simp only [List.length_drop, List.length_take]; rfl)) ?_; (with_reducible refine (impl_PairOfSteps.calls k _ _ t229 t232 t235 t238 _ ?side1 ?side2 A6.out).mono ?_); (case side1 => repeat (first | exact (Kd.R_reads' HO231.out).2.2 | (with_reducible refine Kd.C_alloc ?_ _) | (with_reducible refine Kd.C_drewN ?_ _) | (with_reducible refine Kd.C_drew ?_))); (case side2 => exact (Kd.R_reads' HO231.out).2.1); rintro e w17 ⟨v233, v236, rfl, ho0, ho1, hb⟩; refine ⟨_, rfl, ?_⟩; have n0_ := Aside0.mk (Kd.R_mono (Kd.R_told (Kd.R_told (Kd.R_old (by (with_reducible repeat (first | apply Kd.R_alloc | apply Kd.R_drewN | apply Kd.R_drew)); exact HO220.out) hb) (Kd.R_base ho0)) (Kd.R_base ho1)) (fun _ h_ => h_.1)); have n1_ := Aside0.mk (Kd.R_mono (Kd.R_told (Kd.R_told (Kd.R_old (by (with_reducible repeat (first | apply Kd.R_alloc | apply Kd.R_drewN | apply Kd.R_drew)); exact HO223.out) hb) (Kd.R_base ho0)) (Kd.R_base ho1)) (fun _ h_ => h_.1)); have n2_ := Aside0.mk (Kd.R_mono (Kd.R_told (Kd.R_told (Kd.R_old (by (with_reducible repeat (first | apply Kd.R_alloc | apply Kd.R_drewN | apply Kd.R_drew)); exact HO226.out) hb) (Kd.R_base ho0)) (Kd.R_base ho1)) (fun _ h_ => h_.1)); have n3_ := Aside0.mk (Kd.R_mono (Kd.R_told (Kd.R_told (Kd.R_old (by (with_reducible repeat (first | apply Kd.R_alloc | apply Kd.R_drewN | apply Kd.R_drew)); exact HO231.out) hb) (Kd.R_base ho0)) (Kd.R_base ho1)) (fun _ h_ => h_.1)); have n4_ := Aside0.mk (Kd.R_lower (Kd.R_new' (Kd.R_new' (Kd.R_new' (Kd.R_new' ho0 (Kd.R_lt (by (with_reducible repeat (first | apply Kd.R_alloc | apply Kd.R_drewN | apply Kd.R_drew)); exact HO220.out))) (Kd.R_lt (by (with_reducible repeat (first | apply Kd.R_alloc | apply Kd.R_drewN | apply Kd.R_drew)); exact HO223.out))) (Kd.R_lt (by (with_reducible repeat (first | apply Kd.R_alloc | apply Kd.R_drewN | apply Kd.R_drew)); exact HO226.out))) (Kd.R_lt (by (with_reducible repeat (first | apply Kd.R_alloc | apply Kd.R_drewN | apply Kd.R_drew)); exact HO231.out))) (below_size (by repeat (first | (with_reducible first | exact HB.out | apply below_alloc | apply pw_below_drewN | apply below_drew1 | refine below_set ?_ GE228.out) | exact HB.out)))); have n5_ := Aside0.mk (Kd.R_lower (Kd.R_new' (Kd.R_new' (Kd.R_new' (Kd.R_new' ho1 (Kd.R_lt (by (with_reducible repeat (first | apply Kd.R_alloc | apply Kd.R_drewN | apply Kd.R_drew)); exact HO220.out))) (Kd.R_lt (by (with_reducible repeat (first | apply Kd.R_alloc | apply Kd.R_drewN | apply Kd.R_drew)); exact HO223.out))) (Kd.R_lt (by (with_reducible repeat (first | apply Kd.R_alloc | apply Kd.R_drewN | apply Kd.R_drew)); exact HO226.out))) (Kd.R_lt (by (with_reducible repeat (first | apply Kd.R_alloc | apply Kd.R_drewN | apply Kd.R_drew)); exact HO231.out))) (below_size (by repeat (first | (with_reducible first | exact HB.out | apply below_alloc | apply pw_below_drewN | apply below_drew1 | refine below_set ?_ GE228.out) | exact HB.out)))); have n6_ := Aside0.mk (blk_below (g := gb228) (o := .cells #[.slice Ao12 t221.length co12, .slice Ao14 t224.length co14] 34 (0, 0)) (by (with_reducible repeat (first | refine blk_drewN ?_ _ | refine blk_drew ?_ | refine blk_alloc ?_ _)); exact BK228.out) hb); have n7_ := Aside0.mk (below_step (by repeat (first | (with_reducible first | exact HB.out | apply below_alloc | apply pw_below_drewN | apply below_drew1 | refine below_set ?_ GE228.out) | exact HB.out)) hb); clear HO220; clear HO223; clear HO226; clear HO231; clear BK228; clear HB; have HO220 := n0_; have HO223 := n1_; have HO226 := n2_; have HO231 := n3_; have HO234 := n4_; have HO237 := n5_; have BK228 := n6_; have HB := n7_; clear n0_ n1_ n2_ n3_ n4_ n5_ n6_ n7_; (try clear hb); (try clear hb2); (try clear hk); (try clear hi); (try clear ho0); (try clear ho1)) | ((with_reducible refine gate_dst (N := 6) rfl ?_); refine box_event ?hg (N := 6) ?hd (cs := #[.slice none 0 0, .slice none 0 0]) (t := 34) ?hr ?_; (case hd => rfl); (case hg => rfl); (case hr => first | (go_simp; done) | (go_simp; rfl)); intro gb239 hg w18 hbox hb; have n0_ := Aside0.mk (Kd.R_below (by (with_reducible repeat (first | apply Kd.R_alloc | apply Kd.R_drewN | apply Kd.R_drew)); exact HO220.out) hb); have n1_ := Aside0.mk (Kd.R_below (by (with_reducible repeat (first | apply Kd.R_alloc | apply Kd.R_drewN | apply Kd.R_drew)); exact HO223.out) hb); have n2_ := Aside0.mk (Kd.R_below (by (with_reducible repeat (first | apply Kd.R_alloc | apply Kd.R_drewN | apply Kd.R_drew)); exact HO226.out) hb); have n3_ := Aside0.mk (Kd.R_below (by (with_reducible repeat (first | apply Kd.R_alloc | apply Kd.R_drewN | apply Kd.R_drew)); exact HO231.out) hb); have n4_ := Aside0.mk (Kd.R_below (by (with_reducible repeat (first | apply Kd.R_alloc | apply Kd.R_drewN | apply Kd.R_drew)); exact HO234.out) hb); have n5_ := Aside0.mk (Kd.R_below (by (with_reducible repeat (first | apply Kd.R_alloc | apply Kd.R_drewN | apply Kd.R_drew)); exact HO237.out) hb); have n6_ := Aside0.mk (blk_below (g := gb228) (o := .cells #[.slice Ao12 t221.length co12, .slice Ao14 t224.length co14] 34 (0, 0)) (by (with_reducible repeat (first | refine blk_drewN ?_ _ | refine blk_drew ?_ | refine blk_alloc ?_ _)); exact BK228.out) hb); have n7_ := Aside0.mk (below_step (by repeat (first | (with_reducible first | exact HB.out | apply below_alloc | apply pw_below_drewN | apply below_drew1 | refine below_set ?_ GE228.out) | exact HB.out)) hb); have n8_ := Aside0.mk (hbox); have n9_ := Aside0.mk ((by rw [hg]; exact (below_size (by repeat (first | (with_reducible first | exact HB.out | apply below_alloc | apply pw_below_drewN | apply below_drew1 | refine below_set ?_ GE228.out) | exact HB.out))) : w.heap.size ≤ gb239)); have n10_ := Aside0.mk ((by rw [hg]; exact (below_size (by repeat (first | (with_reducible first | exact HB.out | apply below_alloc | apply pw_below_drewN | apply below_drew1 | refine below_set ?_ GE228.out) | exact HB.out))) : w.heap.size ≤ gb239)); have n11_ := Aside0.mk ((by rw [hg]; exact Nat.ne_of_lt (blk_lt (g := gb228) (o := .cells #[.slice Ao12 t221.length co12, .slice Ao14 t224.length co14] 34 (0, 0)) (by (with_reducible repeat (first | refine blk_drewN ?_ _ | refine blk_drew ?_ | refine blk_alloc ?_ _)); exact BK228.out)) : gb228 ≠ gb239)); have n12_ := Aside0.mk ((by rw [hg]; exact Nat.ne_of_gt (blk_lt (g := gb228) (o := .cells #[.slice Ao12 t221.length co12, .slice Ao14 t224.length co14] 34 (0, 0)) (by (with_reducible repeat (first | refine blk_drewN ?_ _ | refine blk_drew ?_ | refine blk_alloc ?_ _)); exact BK228.out)) : gb239 ≠ gb228)); clear HO220; clear HO223; clear HO226; clear HO231; clear HO234; clear HO237; clear BK228; clear HB; have HO220 := n0_; have HO223 := n1_; have HO226 := n2_; have HO231 := n3_; have HO234 := n4_; have HO237 := n5_; have BK228 := n6_; have HB := n7_; have BK239 := n8_; have GW239 := n9_; have GE239 := n10_; have NB228_239 := n11_; have NB239_228 := n12_; clear n0_ n1_ n2_ n3_ n4_ n5_ n6_ n7_ n8_ n9_ n10_ n11_ n12_; clear hb hbox hg; obtain ⟨Ao19, co19, eo19⟩ := Kd.R_slice HO234.out; subst eo19; have hnb20 := NB239_228.out; have hnc20 := NB228_239.out; have hcz21_0 : w18.cell? ⟨gb239, 0, none⟩ = some (.slice none 0 0) := (blk_cell BK239.out 0).trans rfl; have hcz21_1 : w18.cell? ⟨gb239, 1, none⟩ = some (.slice none 0 0) := (blk_cell BK239.out 1).trans rfl; have hfz21_0 := blk_frozen BK239.out 0; have hfz21_1 := blk_frozen BK239.out 1; obtain ⟨Ao22, co22, eo22⟩ := Kd.R_slice HO237.out; subst eo22))
    (try simp only [Act.put, List.setIfInBounds_toArray, List.set_cons_zero, List.set_cons_succ])
    go_cut [37] (fun v37 wc => ∃ (kq : Nat) (x37_6 : Bool), v37 = .bool x37_6 ∧ Aside0 (laws_FnExactPairOfSteps.j0 kq l0 t227 t229 t238 x37_6 t221 t224 t232 t235 = some r) ∧ Aside0 (kq ≤ k) ∧ Aside0 (Kd.R (Kd.int .i64) 3 wc w.heap.size (fun k_ => some k_ ≠ ((.slice Ao12 t221.length co12) : Value).ownBlock ∧ some k_ ≠ ((.slice Ao14 t224.length co14) : Value).ownBlock ∧ some k_ ≠ ((.slice Ao19 t232.length co19) : Value).ownBlock ∧ some k_ ≠ ((.slice Ao22 t235.length co22) : Value).ownBlock) (.slice Ao16 t229.length co16) t229) ∧ Aside0 (Kd.R (Kd.int .i64) 3 wc w.heap.size (fun k_ => some k_ ≠ ((.slice Ao16 t229.length co16) : Value).ownBlock ∧ some k_ ≠ ((.slice Ao14 t224.length co14) : Value).ownBlock ∧ some k_ ≠ ((.slice Ao19 t232.length co19) : Value).ownBlock ∧ some k_ ≠ ((.slice Ao22 t235.length co22) : Value).ownBlock) (.slice Ao12 t221.length co12) t221) ∧ Aside0 (Kd.R (Kd.int .i64) 3 wc w.heap.size (fun k_ => some k_ ≠ ((.slice Ao16 t229.length co16) : Value).ownBlock ∧ some k_ ≠ ((.slice Ao12 t221.length co12) : Value).ownBlock ∧ some k_ ≠ ((.slice Ao19 t232.length co19) : Value).ownBlock ∧ some k_ ≠ ((.slice Ao22 t235.length co22) : Value).ownBlock) (.slice Ao14 t224.length co14) t224) ∧ Aside0 (Kd.R (Kd.int .i64) 3 wc w.heap.size (fun k_ => some k_ ≠ ((.slice Ao16 t229.length co16) : Value).ownBlock ∧ some k_ ≠ ((.slice Ao12 t221.length co12) : Value).ownBlock ∧ some k_ ≠ ((.slice Ao14 t224.length co14) : Value).ownBlock ∧ some k_ ≠ ((.slice Ao22 t235.length co22) : Value).ownBlock) (.slice Ao19 t232.length co19) t232) ∧ Aside0 (Kd.R (Kd.int .i64) 3 wc w.heap.size (fun k_ => some k_ ≠ ((.slice Ao16 t229.length co16) : Value).ownBlock ∧ some k_ ≠ ((.slice Ao12 t221.length co12) : Value).ownBlock ∧ some k_ ≠ ((.slice Ao14 t224.length co14) : Value).ownBlock ∧ some k_ ≠ ((.slice Ao19 t232.length co19) : Value).ownBlock) (.slice Ao22 t235.length co22) t235) ∧ Aside0 (wc.heap[gb228]? = some (.cells #[(.slice Ao12 t221.length co12), (.slice Ao14 t224.length co14)] 34 (0, 0))) ∧ Aside0 (wc.heap[gb239]? = some (.cells #[(.slice Ao19 t232.length co19), (.slice Ao22 t235.length co22)] 34 (0, 0))) ∧ Aside0 (Below w.heap.size w wc))
    case first =>
      have H := HC7.out
      clear HC7
      replace H := Option.bind_eq_some_iff.mp H
      obtain ⟨t240, A230, H⟩ := H
      replace H : (if t240 = true then (laws_FnExactPairOfSteps.j0 k l0 t227 t229 t238 (t238 != t227) t221 t224 t232 t235) else (laws_FnExactPairOfSteps.j0 k l0 t227 t229 t238 true t221 t224 t232 t235)) = some r := H
      have A23 := Aside0.mk A230
      clear A230
      by_cases c24 : t240 = true
      · subst c24
        have H1 : (laws_FnExactPairOfSteps.j0 k l0 t227 t229 t238 (t238 != t227) t221 t224 t232 t235) = some r := by rw [if_pos rfl] at H; exact H
        clear H
        have H := H1
        clear H1
        have H' := Aside0.mk H
        clear H
        have hnb25 := NB239_228.out
        have hnc25 := NB228_239.out
        have hcz26_0 : w18.cell? ⟨gb239, 0, none⟩ = some (.slice none 0 0) := (blk_cell BK239.out 0).trans rfl
        have hcz26_1 : w18.cell? ⟨gb239, 1, none⟩ = some (.slice none 0 0) := (blk_cell BK239.out 1).trans rfl
        have hfz26_0 := blk_frozen BK239.out 0
        have hfz26_1 := blk_frozen BK239.out 1
        have hcz27_0 : w18.cell? ⟨gb228, 0, none⟩ = some (.slice Ao12 t221.length co12) := (blk_cell BK228.out 0).trans rfl
        have hcz27_1 : w18.cell? ⟨gb228, 1, none⟩ = some (.slice Ao14 t224.length co14) := (blk_cell BK228.out 1).trans rfl
        have hfz27_0 := blk_frozen BK228.out 0
        have hfz27_1 := blk_frozen BK228.out 1
        go_wp2_with (first | ((with_reducible refine gate_callee (f := 25) rfl ?_); refine goesL_ (some 31) rfl rfl Try.func25 (by kernel_rfl) rfl #[.agg #[.slice Ao19 t232.length co19, .slice Ao22 t235.length co22], .agg #[.slice Ao12 t221.length co12, .slice Ao14 t224.length co14]] rfl (by (try simp only [List.map_toArray, List.map_cons, List.map_nil]); first | done | rfl | (simp only [List.length_drop, List.length_take]; rfl)) ?_; (with_reducible refine (laws_eqMeander.calls k _ _ t232 _ _ t235 _ _ t221 _ _ t224 true _ ?side1 ?side2 ?side3 ?side4 ?side5 ?side6 ?side7 ?side8 A23.out).mono ?_); (case side1 => refine (Kd.R_reads' (e := 3) (base := w.heap.size) (ok := fun k_ => ((((some k_ ≠ (.slice Ao22 t235.length co22 : Value).ownBlock ∧ some k_ ≠ (.slice Ao9 t218.length co9 : Value).ownBlock) ∧ some k_ ≠ (.slice Ao12 t221.length co12 : Value).ownBlock) ∧ some k_ ≠ (.slice Ao14 t224.length co14 : Value).ownBlock) ∧ some k_ ≠ (.slice Ao16 t229.length co16 : Value).ownBlock)) (n := t232.length) (c := co19) ?_).2.2; exact (by (with_reducible repeat (first | apply Kd.R_alloc | apply Kd.R_drewN | apply Kd.R_drew)); exact (Kd.R_mono (Kd.R_far (p := ⟨gb239, 1, none⟩) (Kd.R_far (p := ⟨gb239, 0, none⟩) (Kd.R_types HO234.out BK239.out (by decide)) (fun _ hk => hk.2) (.slice Ao19 t232.length co19)) (fun _ hk => hk.2) (.slice Ao22 t235.length co22)) (fun _ h_ => h_.1)))); (case side2 => exact (Kd.R_reads' HO234.out).2.1); (case side3 => refine (Kd.R_reads' (e := 3) (base := w.heap.size) (ok := fun k_ => ((((some k_ ≠ (.slice Ao19 t232.length co19 : Value).ownBlock ∧ some k_ ≠ (.slice Ao9 t218.length co9 : Value).ownBlock) ∧ some k_ ≠ (.slice Ao12 t221.length co12 : Value).ownBlock) ∧ some k_ ≠ (.slice Ao14 t224.length co14 : Value).ownBlock) ∧ some k_ ≠ (.slice Ao16 t229.length co16 : Value).ownBlock)) (n := t235.length) (c := co22) ?_).2.2; exact (by (with_reducible repeat (first | apply Kd.R_alloc | apply Kd.R_drewN | apply Kd.R_drew)); exact (Kd.R_mono (Kd.R_far (p := ⟨gb239, 1, none⟩) (Kd.R_far (p := ⟨gb239, 0, none⟩) (Kd.R_types HO237.out BK239.out (by decide)) (fun _ hk => hk.2) (.slice Ao19 t232.length co19)) (fun _ hk => hk.2) (.slice Ao22 t235.length co22)) (fun _ h_ => h_.1)))); (case side4 => exact (Kd.R_reads' HO237.out).2.1); (case side5 => refine (Kd.R_reads' (e := 3) (base := w.heap.size) (ok := fun k_ => ((((some k_ ≠ (.slice Ao14 t224.length co14 : Value).ownBlock ∧ some k_ ≠ (.slice Ao9 t218.length co9 : Value).ownBlock) ∧ some k_ ≠ (.slice Ao16 t229.length co16 : Value).ownBlock) ∧ some k_ ≠ (.slice Ao19 t232.length co19 : Value).ownBlock) ∧ some k_ ≠ (.slice Ao22 t235.length co22 : Value).ownBlock)) (n := t221.length) (c := co12) ?_).2.2; exact (by (with_reducible repeat (first | apply Kd.R_alloc | apply Kd.R_drewN | apply Kd.R_drew)); exact (Kd.R_mono (Kd.R_far (p := ⟨gb239, 1, none⟩) (Kd.R_far (p := ⟨gb239, 0, none⟩) (Kd.R_types HO223.out BK239.out (by decide)) (fun _ hk => hk.2) (.slice Ao19 t232.length co19)) (fun _ hk => hk.2) (.slice Ao22 t235.length co22)) (fun _ h_ => h_.1)))); (case side6 => exact (Kd.R_reads' HO223.out).2.1); (case side7 => refine (Kd.R_reads' (e := 3) (base := w.heap.size) (ok := fun k_ => ((((some k_ ≠ (.slice Ao12 t221.length co12 : Value).ownBlock ∧ some k_ ≠ (.slice Ao9 t218.length co9 : Value).ownBlock) ∧ some k_ ≠ (.slice Ao16 t229.length co16 : Value).ownBlock) ∧ some k_ ≠ (.slice Ao19 t232.length co19 : Value).ownBlock) ∧ some k_ ≠ (.slice Ao22 t235.length co22 : Value).ownBlock)) (n := t224.length) (c := co14) ?_).2.2; exact (by (with_reducible repeat (first | apply Kd.R_alloc | apply Kd.R_drewN | apply Kd.R_drew)); exact (Kd.R_mono (Kd.R_far (p := ⟨gb239, 1, none⟩) (Kd.R_far (p := ⟨gb239, 0, none⟩) (Kd.R_types HO226.out BK239.out (by decide)) (fun _ hk => hk.2) (.slice Ao19 t232.length co19)) (fun _ hk => hk.2) (.slice Ao22 t235.length co22)) (fun _ h_ => h_.1)))); (case side8 => exact (Kd.R_reads' HO226.out).2.1); rintro e w28 ⟨rfl, hb⟩; refine ⟨_, rfl, ?_⟩; have n0_ := Aside0.mk (Kd.R_below (by (with_reducible repeat (first | apply Kd.R_alloc | apply Kd.R_drewN | apply Kd.R_drew)); exact (Kd.R_mono (Kd.R_far (p := ⟨gb239, 1, none⟩) (Kd.R_far (p := ⟨gb239, 0, none⟩) (Kd.R_types HO220.out BK239.out (by decide)) (fun _ hk => hk.2) (.slice Ao19 t232.length co19)) (fun _ hk => hk.2) (.slice Ao22 t235.length co22)) (fun _ h_ => h_.1))) hb); have n1_ := Aside0.mk (Kd.R_below (by (with_reducible repeat (first | apply Kd.R_alloc | apply Kd.R_drewN | apply Kd.R_drew)); exact (Kd.R_mono (Kd.R_far (p := ⟨gb239, 1, none⟩) (Kd.R_far (p := ⟨gb239, 0, none⟩) (Kd.R_types HO223.out BK239.out (by decide)) (fun _ hk => hk.2) (.slice Ao19 t232.length co19)) (fun _ hk => hk.2) (.slice Ao22 t235.length co22)) (fun _ h_ => h_.1))) hb); have n2_ := Aside0.mk (Kd.R_below (by (with_reducible repeat (first | apply Kd.R_alloc | apply Kd.R_drewN | apply Kd.R_drew)); exact (Kd.R_mono (Kd.R_far (p := ⟨gb239, 1, none⟩) (Kd.R_far (p := ⟨gb239, 0, none⟩) (Kd.R_types HO226.out BK239.out (by decide)) (fun _ hk => hk.2) (.slice Ao19 t232.length co19)) (fun _ hk => hk.2) (.slice Ao22 t235.length co22)) (fun _ h_ => h_.1))) hb); have n3_ := Aside0.mk (Kd.R_below (by (with_reducible repeat (first | apply Kd.R_alloc | apply Kd.R_drewN | apply Kd.R_drew)); exact (Kd.R_mono (Kd.R_far (p := ⟨gb239, 1, none⟩) (Kd.R_far (p := ⟨gb239, 0, none⟩) (Kd.R_types HO231.out BK239.out (by decide)) (fun _ hk => hk.2) (.slice Ao19 t232.length co19)) (fun _ hk => hk.2) (.slice Ao22 t235.length co22)) (fun _ h_ => h_.1))) hb); have n4_ := Aside0.mk (Kd.R_below (by (with_reducible repeat (first | apply Kd.R_alloc | apply Kd.R_drewN | apply Kd.R_drew)); exact (Kd.R_mono (Kd.R_far (p := ⟨gb239, 1, none⟩) (Kd.R_far (p := ⟨gb239, 0, none⟩) (Kd.R_types HO234.out BK239.out (by decide)) (fun _ hk => hk.2) (.slice Ao19 t232.length co19)) (fun _ hk => hk.2) (.slice Ao22 t235.length co22)) (fun _ h_ => h_.1))) hb); have n5_ := Aside0.mk (Kd.R_below (by (with_reducible repeat (first | apply Kd.R_alloc | apply Kd.R_drewN | apply Kd.R_drew)); exact (Kd.R_mono (Kd.R_far (p := ⟨gb239, 1, none⟩) (Kd.R_far (p := ⟨gb239, 0, none⟩) (Kd.R_types HO237.out BK239.out (by decide)) (fun _ hk => hk.2) (.slice Ao19 t232.length co19)) (fun _ hk => hk.2) (.slice Ao22 t235.length co22)) (fun _ h_ => h_.1))) hb); have n6_ := Aside0.mk (blk_below (g := gb228) (o := .cells #[.slice Ao12 t221.length co12, .slice Ao14 t224.length co14] 34 (0, 0)) (by (with_reducible repeat (first | refine blk_drewN ?_ _ | refine blk_drew ?_ | refine blk_alloc ?_ _)); refine blk_far ?_ NB228_239.out _; (with_reducible repeat (first | refine blk_drewN ?_ _ | refine blk_drew ?_ | refine blk_alloc ?_ _)); refine blk_far ?_ NB228_239.out _; (with_reducible repeat (first | refine blk_drewN ?_ _ | refine blk_drew ?_ | refine blk_alloc ?_ _)); exact BK228.out) hb); have n7_ := Aside0.mk (blk_below (g := gb239) (o := .cells #[.slice Ao19 t232.length co19, .slice Ao22 t235.length co22] 34 (0, 0)) (by (with_reducible repeat (first | refine blk_drewN ?_ _ | refine blk_drew ?_ | refine blk_alloc ?_ _)); refine blk_put (cs := #[.slice Ao19 t232.length co19, .slice none 0 0]) ?_ 1 _ rfl; (with_reducible repeat (first | refine blk_drewN ?_ _ | refine blk_drew ?_ | refine blk_alloc ?_ _)); refine blk_put (cs := #[.slice none 0 0, .slice none 0 0]) ?_ 0 _ rfl; (with_reducible repeat (first | refine blk_drewN ?_ _ | refine blk_drew ?_ | refine blk_alloc ?_ _)); exact BK239.out) hb); have n8_ := Aside0.mk (below_step (by repeat (first | (with_reducible first | exact HB.out | apply below_alloc | apply pw_below_drewN | apply below_drew1 | refine below_set ?_ GE228.out | refine below_set ?_ GE239.out) | exact HB.out)) hb); clear HO220; clear HO223; clear HO226; clear HO231; clear HO234; clear HO237; clear BK228; clear BK239; clear HB; have HO220 := n0_; have HO223 := n1_; have HO226 := n2_; have HO231 := n3_; have HO234 := n4_; have HO237 := n5_; have BK228 := n6_; have BK239 := n7_; have HB := n8_; clear n0_ n1_ n2_ n3_ n4_ n5_ n6_ n7_ n8_; (try clear hb); (try clear hb2); (try clear hk); (try clear hi)))
        go_meet
        case rel => exact ⟨_, ((t238 != t227)), (by first | rfl | (simp; done) | (simp [*]; done)), H', ⟨by first | omega | exact Nat.le_refl _⟩, ⟨by (with_reducible repeat (first | apply Kd.R_alloc | apply Kd.R_drewN | apply Kd.R_drew)); exact Kd.R_mono HO231.out (fun _ hk => ⟨hk.1.1.1.2, ⟨hk.1.1.2, ⟨hk.1.2, hk.2⟩⟩⟩)⟩, ⟨by (with_reducible repeat (first | apply Kd.R_alloc | apply Kd.R_drewN | apply Kd.R_drew)); exact Kd.R_mono HO223.out (fun _ hk => ⟨hk.1.1.2, ⟨hk.1.1.1.1, ⟨hk.1.2, hk.2⟩⟩⟩)⟩, ⟨by (with_reducible repeat (first | apply Kd.R_alloc | apply Kd.R_drewN | apply Kd.R_drew)); exact Kd.R_mono HO226.out (fun _ hk => ⟨hk.1.1.2, ⟨hk.1.1.1.1, ⟨hk.1.2, hk.2⟩⟩⟩)⟩, ⟨by (with_reducible repeat (first | apply Kd.R_alloc | apply Kd.R_drewN | apply Kd.R_drew)); exact Kd.R_mono HO234.out (fun _ hk => ⟨hk.2, ⟨hk.1.1.2, ⟨hk.1.2, hk.1.1.1.1⟩⟩⟩)⟩, ⟨by (with_reducible repeat (first | apply Kd.R_alloc | apply Kd.R_drewN | apply Kd.R_drew)); exact Kd.R_mono HO237.out (fun _ hk => ⟨hk.2, ⟨hk.1.1.2, ⟨hk.1.2, hk.1.1.1.1⟩⟩⟩)⟩, ⟨by (with_reducible repeat (first | refine blk_drewN ?_ _ | refine blk_drew ?_ | refine blk_alloc ?_ _)); exact BK228.out⟩, ⟨by (with_reducible repeat (first | refine blk_drewN ?_ _ | refine blk_drew ?_ | refine blk_alloc ?_ _)); exact BK239.out⟩, ⟨by repeat (first | (with_reducible first | exact HB.out | apply below_alloc | apply pw_below_drewN | apply below_drew1 | refine below_set ?_ GE228.out | refine below_set ?_ GE239.out) | exact HB.out)⟩⟩
      · replace c24 := Bool.eq_false_iff.mpr c24
        subst c24
        have H1 : (laws_FnExactPairOfSteps.j0 k l0 t227 t229 t238 true t221 t224 t232 t235) = some r := by rw [if_neg (show ¬ (false = true) by decide)] at H; exact H
        rw [hr_] at H1; exact absurd H1 (laws_FnExactPairOfSteps.j0_no _ _ _ _ _ _ _ _ _)
    case rest =>
      clear HC7
      try clear c2
      try clear c2b0
      try clear c2b1
      try clear p2
      try clear c5
      try clear c20
      try clear c22
      try clear c23
      try clear c24
      try clear c25
      try clear c29
      try clear hcz13_0
      try clear hcz13_1
      try clear hcz21_0
      try clear hcz21_1
      try clear hcz26_0
      try clear hcz26_1
      try clear hcz27_0
      try clear hcz27_1
      try clear hcz30_0
      try clear hcz30_1
      try clear hcz31_0
      try clear hcz31_1
      try clear hfz13_0
      try clear hfz13_1
      try clear hfz21_0
      try clear hfz21_1
      try clear hfz26_0
      try clear hfz26_1
      try clear hfz27_0
      try clear hfz27_1
      try clear hfz30_0
      try clear hfz30_1
      try clear hfz31_0
      try clear hfz31_1
      obtain ⟨kq, x37_6, rfl, HA, HJ6, HO_5, HO_229000, HO_229001, HO_240000, HO_240001, BK228, BK239, HB⟩ := hcut
      cases kq with
      | zero => exact absurd HA.out (by simp [laws_FnExactPairOfSteps.j0])
      | succ kj6 =>
        have H := HA.out
        clear HA
        simp only [laws_FnExactPairOfSteps.j0] at H
        by_cases c33 : x37_6 = true
        · subst c33
          have H1 : (some false) = some r := by rw [if_pos rfl] at H; exact H
          rw [hr_] at H1; exact absurd H1 (by decide)
        · replace c33 := Bool.eq_false_iff.mpr c33
          subst c33
          have H1 : ((laws_toIntS.f kj6 l0).bind fun t241 => ((laws_eqIntS.f kj6 t229 t241).bind fun t244 => (if t244 = true then ((laws_markIntS.f kj6 t229 1).bind fun bt245 => (if bt245.1 < 0 then (laws_FnExactPairOfSteps.j1 kj6 l0 t227 true t221 t224 t232 t235) else ((laws_eqMeander.f kj6 t232 t235 t221 t224).bind fun t247 => (if t247 = true then (laws_FnExactPairOfSteps.j1 kj6 l0 t227 (t238 != t227) t221 t224 t232 t235) else (laws_FnExactPairOfSteps.j1 kj6 l0 t227 true t221 t224 t232 t235))))) else (some false)))) = some r := by rw [if_neg (show ¬ (false = true) by decide)] at H; exact H
          clear H
          have H := H1
          clear H1
          replace H := Option.bind_eq_some_iff.mp H
          obtain ⟨t241, A340, H⟩ := H
          replace H : ((laws_eqIntS.f kj6 t229 t241).bind fun t244 => (if t244 = true then ((laws_markIntS.f kj6 t229 1).bind fun bt245 => (if bt245.1 < 0 then (laws_FnExactPairOfSteps.j1 kj6 l0 t227 true t221 t224 t232 t235) else ((laws_eqMeander.f kj6 t232 t235 t221 t224).bind fun t247 => (if t247 = true then (laws_FnExactPairOfSteps.j1 kj6 l0 t227 (t238 != t227) t221 t224 t232 t235) else (laws_FnExactPairOfSteps.j1 kj6 l0 t227 true t221 t224 t232 t235))))) else (some false))) = some r := H
          have A34 := Aside0.mk A340
          clear A340
          replace H := Option.bind_eq_some_iff.mp H
          obtain ⟨t244, A350, H⟩ := H
          replace H : (if t244 = true then ((laws_markIntS.f kj6 t229 1).bind fun bt245 => (if bt245.1 < 0 then (laws_FnExactPairOfSteps.j1 kj6 l0 t227 true t221 t224 t232 t235) else ((laws_eqMeander.f kj6 t232 t235 t221 t224).bind fun t247 => (if t247 = true then (laws_FnExactPairOfSteps.j1 kj6 l0 t227 (t238 != t227) t221 t224 t232 t235) else (laws_FnExactPairOfSteps.j1 kj6 l0 t227 true t221 t224 t232 t235))))) else (some false)) = some r := H
          have A35 := Aside0.mk A350
          clear A350
          by_cases c36 : t244 = true
          · subst c36
            have H1 : ((laws_markIntS.f kj6 t229 1).bind fun bt245 => (if bt245.1 < 0 then (laws_FnExactPairOfSteps.j1 kj6 l0 t227 true t221 t224 t232 t235) else ((laws_eqMeander.f kj6 t232 t235 t221 t224).bind fun t247 => (if t247 = true then (laws_FnExactPairOfSteps.j1 kj6 l0 t227 (t238 != t227) t221 t224 t232 t235) else (laws_FnExactPairOfSteps.j1 kj6 l0 t227 true t221 t224 t232 t235))))) = some r := by rw [if_pos rfl] at H; exact H
            clear H
            have H := H1
            clear H1
            replace H := Option.bind_eq_some_iff.mp H
            obtain ⟨⟨t245, t246⟩, A370, H⟩ := H
            replace H : (if t245 < 0 then (laws_FnExactPairOfSteps.j1 kj6 l0 t227 true t221 t224 t232 t235) else ((laws_eqMeander.f kj6 t232 t235 t221 t224).bind fun t247 => (if t247 = true then (laws_FnExactPairOfSteps.j1 kj6 l0 t227 (t238 != t227) t221 t224 t232 t235) else (laws_FnExactPairOfSteps.j1 kj6 l0 t227 true t221 t224 t232 t235)))) = some r := H
            have A37 := Aside0.mk A370
            clear A370
            have HC38 := Aside0.mk H
            clear H
            go_upto_region 12 with (first | ((with_reducible refine gate_callee (f := 23) rfl ?_); refine goesL_ (some 40) rfl rfl Try.func23 (by kernel_rfl) rfl #[.slice A0 l0.length c0] rfl (by (try simp only [List.map_toArray, List.map_cons, List.map_nil]); first | done | rfl | (simp only [List.length_drop, List.length_take]; rfl)) ?_; (with_reducible refine (laws_toIntS.calls kj6 _ _ l0 t241 _ ?side1 ?side2 A34.out).mono ?_); (case side1 => repeat (first | exact (Kd.C_below HR0.out HB.out) | (with_reducible refine Kd.C_alloc ?_ _) | (with_reducible refine Kd.C_drewN ?_ _) | (with_reducible refine Kd.C_drew ?_))); (case side2 => exact HC0.out); rintro e w39 ⟨v242, rfl, ho0, hb⟩; refine ⟨_, rfl, ?_⟩; have n0_ := Aside0.mk (Kd.R_elder' (by (with_reducible repeat (first | apply Kd.R_alloc | apply Kd.R_drewN | apply Kd.R_drew)); exact HO_5.out) (Kd.R_base ho0) hb); have n1_ := Aside0.mk (Kd.R_elder' (by (with_reducible repeat (first | apply Kd.R_alloc | apply Kd.R_drewN | apply Kd.R_drew)); exact HO_229000.out) (Kd.R_base ho0) hb); have n2_ := Aside0.mk (Kd.R_elder' (by (with_reducible repeat (first | apply Kd.R_alloc | apply Kd.R_drewN | apply Kd.R_drew)); exact HO_229001.out) (Kd.R_base ho0) hb); have n3_ := Aside0.mk (Kd.R_elder' (by (with_reducible repeat (first | apply Kd.R_alloc | apply Kd.R_drewN | apply Kd.R_drew)); exact HO_240000.out) (Kd.R_base ho0) hb); have n4_ := Aside0.mk (Kd.R_elder' (by (with_reducible repeat (first | apply Kd.R_alloc | apply Kd.R_drewN | apply Kd.R_drew)); exact HO_240001.out) (Kd.R_base ho0) hb); have n5_ := Aside0.mk (Kd.R_lower (Kd.R_new' (Kd.R_new' (Kd.R_new' (Kd.R_new' (Kd.R_new' ho0 (Kd.R_lt (by (with_reducible repeat (first | apply Kd.R_alloc | apply Kd.R_drewN | apply Kd.R_drew)); exact HO_5.out))) (Kd.R_lt (by (with_reducible repeat (first | apply Kd.R_alloc | apply Kd.R_drewN | apply Kd.R_drew)); exact HO_229000.out))) (Kd.R_lt (by (with_reducible repeat (first | apply Kd.R_alloc | apply Kd.R_drewN | apply Kd.R_drew)); exact HO_229001.out))) (Kd.R_lt (by (with_reducible repeat (first | apply Kd.R_alloc | apply Kd.R_drewN | apply Kd.R_drew)); exact HO_240000.out))) (Kd.R_lt (by (with_reducible repeat (first | apply Kd.R_alloc | apply Kd.R_drewN | apply Kd.R_drew)); exact HO_240001.out))) (below_size (by repeat (first | (with_reducible first | exact HB.out | apply below_alloc | apply pw_below_drewN | apply below_drew1 | refine below_set ?_ GE228.out | refine below_set ?_ GE239.out) | exact HB.out)))); have n6_ := Aside0.mk (blk_below (g := gb228) (o := .cells #[.slice Ao12 t221.length co12, .slice Ao14 t224.length co14] 34 (0, 0)) (by (with_reducible repeat (first | refine blk_drewN ?_ _ | refine blk_drew ?_ | refine blk_alloc ?_ _)); exact BK228.out) hb); have n7_ := Aside0.mk (blk_below (g := gb239) (o := .cells #[.slice Ao19 t232.length co19, .slice Ao22 t235.length co22] 34 (0, 0)) (by (with_reducible repeat (first | refine blk_drewN ?_ _ | refine blk_drew ?_ | refine blk_alloc ?_ _)); exact BK239.out) hb); have n8_ := Aside0.mk (below_step (by repeat (first | (with_reducible first | exact HB.out | apply below_alloc | apply pw_below_drewN | apply below_drew1 | refine below_set ?_ GE228.out | refine below_set ?_ GE239.out) | exact HB.out)) hb); clear HO_5; clear HO_229000; clear HO_229001; clear HO_240000; clear HO_240001; clear BK228; clear BK239; clear HB; have HO_5 := n0_; have HO_229000 := n1_; have HO_229001 := n2_; have HO_240000 := n3_; have HO_240001 := n4_; have HO243 := n5_; have BK228 := n6_; have BK239 := n7_; have HB := n8_; clear n0_ n1_ n2_ n3_ n4_ n5_ n6_ n7_ n8_; (try clear hb); (try clear hb2); (try clear hk); (try clear hi); (try clear ho0); obtain ⟨Ao40, co40, eo40⟩ := Kd.R_slice HO243.out; subst eo40) | ((with_reducible refine gate_callee (f := 26) rfl ?_); refine goesL_ (some 41) rfl rfl Try.func26 (by kernel_rfl) rfl #[.slice Ao16 t229.length co16, .slice Ao40 t241.length co40] rfl (by (try simp only [List.map_toArray, List.map_cons, List.map_nil]); first | done | rfl | (simp only [List.length_drop, List.length_take]; rfl)) ?_; (with_reducible refine (laws_eqIntS.calls kj6 _ _ t229 _ _ t241 true _ ?side1 ?side2 ?side3 ?side4 A35.out).mono ?_); (case side1 => repeat (first | exact (Kd.R_reads' HO_5.out).2.2 | (with_reducible refine Kd.C_alloc ?_ _) | (with_reducible refine Kd.C_drewN ?_ _) | (with_reducible refine Kd.C_drew ?_))); (case side2 => exact (Kd.R_reads' HO_5.out).2.1); (case side3 => repeat (first | exact (Kd.R_reads' HO243.out).2.2 | (with_reducible refine Kd.C_alloc ?_ _) | (with_reducible refine Kd.C_drewN ?_ _) | (with_reducible refine Kd.C_drew ?_))); (case side4 => exact (Kd.R_reads' HO243.out).2.1); rintro e w' ⟨rfl, ⟨nd, rfl⟩⟩; refine ⟨_, rfl, ?_⟩) | ((with_reducible refine gate_callee (f := 27) rfl ?_); refine goesL_ (some 45) rfl rfl Try.func27 (by kernel_rfl) rfl #[.slice Ao16 t229.length co16, .int .i64 1] rfl (by (try simp only [List.map_toArray, List.map_cons, List.map_nil]); first | done | rfl | (simp only [List.length_drop, List.length_take]; rfl)) ?_; (with_reducible refine (laws_markIntS.calls kj6 (fun k_ => some k_ = (.slice Ao16 t229.length co16 : Value).ownBlock) (.slice Ao16 t229.length co16) t229 1 t245 t246 w _ ?side1 ?side2 A37.out).mono ?_); (case side1 => repeat (first | (with_reducible first | exact HB.out | apply below_alloc | apply pw_below_drewN | apply below_drew1 | refine below_set ?_ GE228.out | refine below_set ?_ GE239.out) | exact HB.out)); (case side2 => exact Kd.R_tight rfl HO_5.out); rintro e w41 ⟨rfl, hy0, hb, hkp⟩; refine ⟨_, rfl, ?_⟩; have n0_ := Aside0.mk (Kd.R_reok rfl hy0 (fun k_ e_ => HO_5.out.1 k_ e_)); have n1_ := Aside0.mk (Kd.R_mono (ok' := fun k_ => some k_ ≠ (.slice Ao16 t229.length co16 : Value).ownBlock ∧ some k_ ≠ (.slice Ao14 t224.length co14 : Value).ownBlock ∧ some k_ ≠ (.slice Ao19 t232.length co19 : Value).ownBlock ∧ some k_ ≠ (.slice Ao22 t235.length co22 : Value).ownBlock ∧ some k_ ≠ (.slice Ao40 t241.length co40 : Value).ownBlock) (Kd.R_keptB (HO_229000.out) hkp (fun k_ hk_ hs_ => (hk_.1.1) hs_)) (fun k_ hk_ => ⟨hk_.1.1.1, hk_.1.1.2.1, hk_.1.1.2.2.1, hk_.1.1.2.2.2, hk_.1.2⟩)); have n2_ := Aside0.mk (Kd.R_mono (ok' := fun k_ => some k_ ≠ (.slice Ao16 t229.length co16 : Value).ownBlock ∧ some k_ ≠ (.slice Ao12 t221.length co12 : Value).ownBlock ∧ some k_ ≠ (.slice Ao19 t232.length co19 : Value).ownBlock ∧ some k_ ≠ (.slice Ao22 t235.length co22 : Value).ownBlock ∧ some k_ ≠ (.slice Ao40 t241.length co40 : Value).ownBlock) (Kd.R_keptB (HO_229001.out) hkp (fun k_ hk_ hs_ => (hk_.1.1) hs_)) (fun k_ hk_ => ⟨hk_.1.1.1, hk_.1.1.2.1, hk_.1.1.2.2.1, hk_.1.1.2.2.2, hk_.1.2⟩)); have n3_ := Aside0.mk (Kd.R_mono (ok' := fun k_ => some k_ ≠ (.slice Ao16 t229.length co16 : Value).ownBlock ∧ some k_ ≠ (.slice Ao12 t221.length co12 : Value).ownBlock ∧ some k_ ≠ (.slice Ao14 t224.length co14 : Value).ownBlock ∧ some k_ ≠ (.slice Ao22 t235.length co22 : Value).ownBlock ∧ some k_ ≠ (.slice Ao40 t241.length co40 : Value).ownBlock) (Kd.R_keptB (HO_240000.out) hkp (fun k_ hk_ hs_ => (hk_.1.1) hs_)) (fun k_ hk_ => ⟨hk_.1.1.1, hk_.1.1.2.1, hk_.1.1.2.2.1, hk_.1.1.2.2.2, hk_.1.2⟩)); have n4_ := Aside0.mk (Kd.R_mono (ok' := fun k_ => some k_ ≠ (.slice Ao16 t229.length co16 : Value).ownBlock ∧ some k_ ≠ (.slice Ao12 t221.length co12 : Value).ownBlock ∧ some k_ ≠ (.slice Ao14 t224.length co14 : Value).ownBlock ∧ some k_ ≠ (.slice Ao19 t232.length co19 : Value).ownBlock ∧ some k_ ≠ (.slice Ao40 t241.length co40 : Value).ownBlock) (Kd.R_keptB (HO_240001.out) hkp (fun k_ hk_ hs_ => (hk_.1.1) hs_)) (fun k_ hk_ => ⟨hk_.1.1.1, hk_.1.1.2.1, hk_.1.1.2.2.1, hk_.1.1.2.2.2, hk_.1.2⟩)); have n5_ := Aside0.mk (blk_kept (by (with_reducible repeat (first | refine blk_drewN ?_ _ | refine blk_drew ?_ | refine blk_alloc ?_ _)); exact BK228.out) hkp (fun hs_ => (fun e_ => (Kd.R_ne HO_5.out BK228.out (by decide)) e_) hs_)); have n6_ := Aside0.mk (blk_kept (by (with_reducible repeat (first | refine blk_drewN ?_ _ | refine blk_drew ?_ | refine blk_alloc ?_ _)); exact BK239.out) hkp (fun hs_ => (fun e_ => (Kd.R_ne HO_5.out BK239.out (by decide)) e_) hs_)); have n7_ := Aside0.mk (Kd.R_mono (ok' := fun k_ => some k_ ≠ (.slice Ao16 t229.length co16 : Value).ownBlock ∧ some k_ ≠ (.slice Ao12 t221.length co12 : Value).ownBlock ∧ some k_ ≠ (.slice Ao14 t224.length co14 : Value).ownBlock ∧ some k_ ≠ (.slice Ao19 t232.length co19 : Value).ownBlock ∧ some k_ ≠ (.slice Ao22 t235.length co22 : Value).ownBlock) (Kd.R_keptB (HO243.out) hkp (fun k_ hk_ hs_ => (hk_.1.1.1.1.2) hs_)) (fun k_ hk_ => ⟨hk_.1.1.1.1.1.2, hk_.1.1.1.1.2, hk_.1.1.1.2, hk_.1.1.2, hk_.1.2⟩)); have n8_ := Aside0.mk (hb); clear HO_5; clear HO_229000; clear HO_229001; clear HO_240000; clear HO_240001; clear BK228; clear BK239; clear HO243; clear HB; have HO_5 := n0_; have HO_229000 := n1_; have HO_229001 := n2_; have HO_240000 := n3_; have HO_240001 := n4_; have BK228 := n5_; have BK239 := n6_; have HO243 := n7_; have HB := n8_; clear n0_ n1_ n2_ n3_ n4_ n5_ n6_ n7_ n8_; (try clear hb); (try clear hkp); (try clear hy0)))
            (try simp only [Act.put, List.setIfInBounds_toArray, List.set_cons_zero, List.set_cons_succ])
            go_cut [58] (fun v58 wc => ∃ (kq : Nat) (x58_37 : Bool), v58 = .bool x58_37 ∧ Aside0 (laws_FnExactPairOfSteps.j1 kq l0 t227 x58_37 t221 t224 t232 t235 = some r) ∧ Aside0 (kq ≤ kj6) ∧ Aside0 (Kd.R (Kd.int .i64) 3 wc w.heap.size (fun k_ => some k_ ≠ ((.slice Ao14 t224.length co14) : Value).ownBlock ∧ some k_ ≠ ((.slice Ao19 t232.length co19) : Value).ownBlock ∧ some k_ ≠ ((.slice Ao22 t235.length co22) : Value).ownBlock) (.slice Ao12 t221.length co12) t221) ∧ Aside0 (Kd.R (Kd.int .i64) 3 wc w.heap.size (fun k_ => some k_ ≠ ((.slice Ao12 t221.length co12) : Value).ownBlock ∧ some k_ ≠ ((.slice Ao19 t232.length co19) : Value).ownBlock ∧ some k_ ≠ ((.slice Ao22 t235.length co22) : Value).ownBlock) (.slice Ao14 t224.length co14) t224) ∧ Aside0 (Kd.R (Kd.int .i64) 3 wc w.heap.size (fun k_ => some k_ ≠ ((.slice Ao12 t221.length co12) : Value).ownBlock ∧ some k_ ≠ ((.slice Ao14 t224.length co14) : Value).ownBlock ∧ some k_ ≠ ((.slice Ao22 t235.length co22) : Value).ownBlock) (.slice Ao19 t232.length co19) t232) ∧ Aside0 (Kd.R (Kd.int .i64) 3 wc w.heap.size (fun k_ => some k_ ≠ ((.slice Ao12 t221.length co12) : Value).ownBlock ∧ some k_ ≠ ((.slice Ao14 t224.length co14) : Value).ownBlock ∧ some k_ ≠ ((.slice Ao19 t232.length co19) : Value).ownBlock) (.slice Ao22 t235.length co22) t235) ∧ Aside0 (wc.heap[gb228]? = some (.cells #[(.slice Ao12 t221.length co12), (.slice Ao14 t224.length co14)] 34 (0, 0))) ∧ Aside0 (wc.heap[gb239]? = some (.cells #[(.slice Ao19 t232.length co19), (.slice Ao22 t235.length co22)] 34 (0, 0))) ∧ Aside0 (Below w.heap.size w wc))
            case first =>
              have H := HC38.out
              clear HC38
              by_cases c42 : t245 < 0
              · rw [if_pos c42] at H
                have c42b0 : decide (t245 < 0) = true := decide_eq_true c42
                clear c42
                (first | rw [c42b0] | (simp only [i64_w, i32_w]; rw [c42b0]) | skip)
                have H' := Aside0.mk H
                clear H
                go_wp2
                go_meet
                case rel => exact ⟨_, (true), (by first | rfl | (simp; done) | (simp [*]; done)), H', ⟨by have := HJ6.out; first | omega | exact Nat.le_refl _⟩, ⟨by (with_reducible repeat (first | apply Kd.R_alloc | apply Kd.R_drewN | apply Kd.R_drew)); exact Kd.R_mono HO_229000.out (fun _ hk => ⟨hk.2.1, ⟨hk.2.2.1, hk.2.2.2.1⟩⟩)⟩, ⟨by (with_reducible repeat (first | apply Kd.R_alloc | apply Kd.R_drewN | apply Kd.R_drew)); exact Kd.R_mono HO_229001.out (fun _ hk => ⟨hk.2.1, ⟨hk.2.2.1, hk.2.2.2.1⟩⟩)⟩, ⟨by (with_reducible repeat (first | apply Kd.R_alloc | apply Kd.R_drewN | apply Kd.R_drew)); exact Kd.R_mono HO_240000.out (fun _ hk => ⟨hk.2.1, ⟨hk.2.2.1, hk.2.2.2.1⟩⟩)⟩, ⟨by (with_reducible repeat (first | apply Kd.R_alloc | apply Kd.R_drewN | apply Kd.R_drew)); exact Kd.R_mono HO_240001.out (fun _ hk => ⟨hk.2.1, ⟨hk.2.2.1, hk.2.2.2.1⟩⟩)⟩, ⟨by (with_reducible repeat (first | refine blk_drewN ?_ _ | refine blk_drew ?_ | refine blk_alloc ?_ _)); exact BK228.out⟩, ⟨by (with_reducible repeat (first | refine blk_drewN ?_ _ | refine blk_drew ?_ | refine blk_alloc ?_ _)); exact BK239.out⟩, ⟨by repeat (first | (with_reducible first | exact HB.out | apply below_alloc | apply pw_below_drewN | apply below_drew1 | refine below_set ?_ GE228.out | refine below_set ?_ GE239.out) | exact HB.out)⟩⟩
              · rw [if_neg c42] at H
                have c42b0 : decide (t245 < 0) = false := decide_eq_false c42
                clear c42
                (first | rw [c42b0] | (simp only [i64_w, i32_w]; rw [c42b0]) | skip)
                replace H := Option.bind_eq_some_iff.mp H
                obtain ⟨t247, A430, H⟩ := H
                replace H : (if t247 = true then (laws_FnExactPairOfSteps.j1 kj6 l0 t227 (t238 != t227) t221 t224 t232 t235) else (laws_FnExactPairOfSteps.j1 kj6 l0 t227 true t221 t224 t232 t235)) = some r := H
                have A43 := Aside0.mk A430
                clear A430
                by_cases c44 : t247 = true
                · subst c44
                  have H1 : (laws_FnExactPairOfSteps.j1 kj6 l0 t227 (t238 != t227) t221 t224 t232 t235) = some r := by rw [if_pos rfl] at H; exact H
                  clear H
                  have H := H1
                  clear H1
                  have H' := Aside0.mk H
                  clear H
                  have hnb45 := NB239_228.out
                  have hnc45 := NB228_239.out
                  have hcz46_0 : w41.cell? ⟨gb239, 0, none⟩ = some (.slice Ao19 t232.length co19) := (blk_cell BK239.out 0).trans rfl
                  have hcz46_1 : w41.cell? ⟨gb239, 1, none⟩ = some (.slice Ao22 t235.length co22) := (blk_cell BK239.out 1).trans rfl
                  have hfz46_0 := blk_frozen BK239.out 0
                  have hfz46_1 := blk_frozen BK239.out 1
                  have hcz47_0 : w41.cell? ⟨gb228, 0, none⟩ = some (.slice Ao12 t221.length co12) := (blk_cell BK228.out 0).trans rfl
                  have hcz47_1 : w41.cell? ⟨gb228, 1, none⟩ = some (.slice Ao14 t224.length co14) := (blk_cell BK228.out 1).trans rfl
                  have hfz47_0 := blk_frozen BK228.out 0
                  have hfz47_1 := blk_frozen BK228.out 1
                  go_wp2_with (first | (go_at_call 25; (with_reducible refine (laws_eqMeander.calls kj6 _ _ t232 _ _ t235 _ _ t221 _ _ t224 true _ ?side1 ?side2 ?side3 ?side4 ?side5 ?side6 ?side7 ?side8 A43.out).mono ?_); (case side1 => repeat (first | exact (Kd.R_reads' HO_240000.out).2.2 | (with_reducible refine Kd.C_alloc ?_ _) | (with_reducible refine Kd.C_drewN ?_ _) | (with_reducible refine Kd.C_drew ?_))); (case side2 => exact (Kd.R_reads' HO_240000.out).2.1); (case side3 => repeat (first | exact (Kd.R_reads' HO_240001.out).2.2 | (with_reducible refine Kd.C_alloc ?_ _) | (with_reducible refine Kd.C_drewN ?_ _) | (with_reducible refine Kd.C_drew ?_))); (case side4 => exact (Kd.R_reads' HO_240001.out).2.1); (case side5 => repeat (first | exact (Kd.R_reads' HO_229000.out).2.2 | (with_reducible refine Kd.C_alloc ?_ _) | (with_reducible refine Kd.C_drewN ?_ _) | (with_reducible refine Kd.C_drew ?_))); (case side6 => exact (Kd.R_reads' HO_229000.out).2.1); (case side7 => repeat (first | exact (Kd.R_reads' HO_229001.out).2.2 | (with_reducible refine Kd.C_alloc ?_ _) | (with_reducible refine Kd.C_drewN ?_ _) | (with_reducible refine Kd.C_drew ?_))); (case side8 => exact (Kd.R_reads' HO_229001.out).2.1); rintro e w48 ⟨rfl, hb⟩; have n0_ := Aside0.mk (Kd.R_below (by (with_reducible repeat (first | apply Kd.R_alloc | apply Kd.R_drewN | apply Kd.R_drew)); exact HO_5.out) hb); have n1_ := Aside0.mk (Kd.R_below (by (with_reducible repeat (first | apply Kd.R_alloc | apply Kd.R_drewN | apply Kd.R_drew)); exact HO_229000.out) hb); have n2_ := Aside0.mk (Kd.R_below (by (with_reducible repeat (first | apply Kd.R_alloc | apply Kd.R_drewN | apply Kd.R_drew)); exact HO_229001.out) hb); have n3_ := Aside0.mk (Kd.R_below (by (with_reducible repeat (first | apply Kd.R_alloc | apply Kd.R_drewN | apply Kd.R_drew)); exact HO_240000.out) hb); have n4_ := Aside0.mk (Kd.R_below (by (with_reducible repeat (first | apply Kd.R_alloc | apply Kd.R_drewN | apply Kd.R_drew)); exact HO_240001.out) hb); have n5_ := Aside0.mk (Kd.R_below (by (with_reducible repeat (first | apply Kd.R_alloc | apply Kd.R_drewN | apply Kd.R_drew)); exact HO243.out) hb); have n6_ := Aside0.mk (blk_below (g := gb228) (o := .cells #[.slice Ao12 t221.length co12, .slice Ao14 t224.length co14] 34 (0, 0)) (by (with_reducible repeat (first | refine blk_drewN ?_ _ | refine blk_drew ?_ | refine blk_alloc ?_ _)); exact BK228.out) hb); have n7_ := Aside0.mk (blk_below (g := gb239) (o := .cells #[.slice Ao19 t232.length co19, .slice Ao22 t235.length co22] 34 (0, 0)) (by (with_reducible repeat (first | refine blk_drewN ?_ _ | refine blk_drew ?_ | refine blk_alloc ?_ _)); exact BK239.out) hb); have n8_ := Aside0.mk (below_step (by repeat (first | (with_reducible first | exact HB.out | apply below_alloc | apply pw_below_drewN | apply below_drew1 | refine below_set ?_ GE228.out | refine below_set ?_ GE239.out) | exact HB.out)) hb); clear HO_5; clear HO_229000; clear HO_229001; clear HO_240000; clear HO_240001; clear HO243; clear BK228; clear BK239; clear HB; have HO_5 := n0_; have HO_229000 := n1_; have HO_229001 := n2_; have HO_240000 := n3_; have HO_240001 := n4_; have HO243 := n5_; have BK228 := n6_; have BK239 := n7_; have HB := n8_; clear n0_ n1_ n2_ n3_ n4_ n5_ n6_ n7_ n8_; (try clear hb); (try clear hb2); (try clear hk); (try clear hi)))
                  go_meet
                  case rel => exact ⟨_, ((t238 != t227)), (by first | rfl | (simp; done) | (simp [*]; done)), H', ⟨by have := HJ6.out; first | omega | exact Nat.le_refl _⟩, ⟨by (with_reducible repeat (first | apply Kd.R_alloc | apply Kd.R_drewN | apply Kd.R_drew)); exact Kd.R_mono HO_229000.out (fun _ hk => ⟨hk.2.1, ⟨hk.2.2.1, hk.2.2.2.1⟩⟩)⟩, ⟨by (with_reducible repeat (first | apply Kd.R_alloc | apply Kd.R_drewN | apply Kd.R_drew)); exact Kd.R_mono HO_229001.out (fun _ hk => ⟨hk.2.1, ⟨hk.2.2.1, hk.2.2.2.1⟩⟩)⟩, ⟨by (with_reducible repeat (first | apply Kd.R_alloc | apply Kd.R_drewN | apply Kd.R_drew)); exact Kd.R_mono HO_240000.out (fun _ hk => ⟨hk.2.1, ⟨hk.2.2.1, hk.2.2.2.1⟩⟩)⟩, ⟨by (with_reducible repeat (first | apply Kd.R_alloc | apply Kd.R_drewN | apply Kd.R_drew)); exact Kd.R_mono HO_240001.out (fun _ hk => ⟨hk.2.1, ⟨hk.2.2.1, hk.2.2.2.1⟩⟩)⟩, ⟨by (with_reducible repeat (first | refine blk_drewN ?_ _ | refine blk_drew ?_ | refine blk_alloc ?_ _)); exact BK228.out⟩, ⟨by (with_reducible repeat (first | refine blk_drewN ?_ _ | refine blk_drew ?_ | refine blk_alloc ?_ _)); exact BK239.out⟩, ⟨by repeat (first | (with_reducible first | exact HB.out | apply below_alloc | apply pw_below_drewN | apply below_drew1 | refine below_set ?_ GE228.out | refine below_set ?_ GE239.out) | exact HB.out)⟩⟩
                · replace c44 := Bool.eq_false_iff.mpr c44
                  subst c44
                  have H1 : (laws_FnExactPairOfSteps.j1 kj6 l0 t227 true t221 t224 t232 t235) = some r := by rw [if_neg (show ¬ (false = true) by decide)] at H; exact H
                  rw [hr_] at H1; exact absurd H1 (laws_FnExactPairOfSteps.j1_no _ _ _ _ _ _ _)
            case rest =>
              clear HC38
              try clear c2
              try clear c2b0
              try clear c2b1
              try clear p2
              try clear c3
              try clear c4
              try clear c5
              try clear c20
              try clear c22
              try clear c23
              try clear c24
              try clear c25
              try clear c26
              try clear c27
              try clear c29
              try clear c33
              try clear c36
              try clear c42
              try clear c42b0
              try clear c44
              try clear c45
              try clear c49
              try clear hcz13_0
              try clear hcz13_1
              try clear hcz21_0
              try clear hcz21_1
              try clear hcz26_0
              try clear hcz26_1
              try clear hcz27_0
              try clear hcz27_1
              try clear hcz30_0
              try clear hcz30_1
              try clear hcz31_0
              try clear hcz31_1
              try clear hcz46_0
              try clear hcz46_1
              try clear hcz47_0
              try clear hcz47_1
              try clear hcz50_0
              try clear hcz50_1
              try clear hcz51_0
              try clear hcz51_1
              try clear hfz13_0
              try clear hfz13_1
              try clear hfz21_0
              try clear hfz21_1
              try clear hfz26_0
              try clear hfz26_1
              try clear hfz27_0
              try clear hfz27_1
              try clear hfz30_0
              try clear hfz30_1
              try clear hfz31_0
              try clear hfz31_1
              try clear hfz46_0
              try clear hfz46_1
              try clear hfz47_0
              try clear hfz47_1
              try clear hfz50_0
              try clear hfz50_1
              try clear hfz51_0
              try clear hfz51_1
              try clear p2
              obtain ⟨kq, x58_37, rfl, HA, HJ37, HO_229000, HO_229001, HO_240000, HO_240001, BK228, BK239, HB⟩ := hcut
              cases kq with
              | zero => exact absurd HA.out (by simp [laws_FnExactPairOfSteps.j1])
              | succ kj37 =>
                have H := HA.out
                clear HA
                simp only [laws_FnExactPairOfSteps.j1] at H
                by_cases c53 : x58_37 = true
                · subst c53
                  have H1 : (some false) = some r := by rw [if_pos rfl] at H; exact H
                  rw [hr_] at H1; exact absurd H1 (by decide)
                · replace c53 := Bool.eq_false_iff.mpr c53
                  subst c53
                  have H1 : ((laws_markMeander.f kj37 t232 t235 1).bind fun bt248 => ((laws_heldMeander.f kj37 bt248.2.1 bt248.2.2 1).bind fun t251 => (if t251 < 0 then (some false) else (if t251 = bt248.1 then ((laws_toIntS.f kj37 l0).bind fun t252 => ((impl_PairOfSteps.f kj37 t252).bind fun bt255 => ((laws_eqMeander.f kj37 bt255.1 bt255.2.1 t221 t224).bind fun t263 => (if t263 = true then (laws_FnExactPairOfSteps.j2 kj37 bt248.1 (bt255.2.2 != t227) bt248.2.1 bt248.2.2) else (laws_FnExactPairOfSteps.j2 kj37 bt248.1 true bt248.2.1 bt248.2.2))))) else (some false))))) = some r := by rw [if_neg (show ¬ (false = true) by decide)] at H; exact H
                  clear H
                  have H := H1
                  clear H1
                  replace H := Option.bind_eq_some_iff.mp H
                  obtain ⟨⟨t248, t249, t250⟩, A540, H⟩ := H
                  replace H : ((laws_heldMeander.f kj37 t249 t250 1).bind fun t251 => (if t251 < 0 then (some false) else (if t251 = t248 then ((laws_toIntS.f kj37 l0).bind fun t252 => ((impl_PairOfSteps.f kj37 t252).bind fun bt255 => ((laws_eqMeander.f kj37 bt255.1 bt255.2.1 t221 t224).bind fun t263 => (if t263 = true then (laws_FnExactPairOfSteps.j2 kj37 t248 (bt255.2.2 != t227) t249 t250) else (laws_FnExactPairOfSteps.j2 kj37 t248 true t249 t250))))) else (some false)))) = some r := H
                  have A54 := Aside0.mk A540
                  clear A540
                  replace H := Option.bind_eq_some_iff.mp H
                  obtain ⟨t251, A550, H⟩ := H
                  replace H : (if t251 < 0 then (some false) else (if t251 = t248 then ((laws_toIntS.f kj37 l0).bind fun t252 => ((impl_PairOfSteps.f kj37 t252).bind fun bt255 => ((laws_eqMeander.f kj37 bt255.1 bt255.2.1 t221 t224).bind fun t263 => (if t263 = true then (laws_FnExactPairOfSteps.j2 kj37 t248 (bt255.2.2 != t227) t249 t250) else (laws_FnExactPairOfSteps.j2 kj37 t248 true t249 t250))))) else (some false))) = some r := H
                  have A55 := Aside0.mk A550
                  clear A550
                  by_cases c56 : t251 < 0
                  · rw [if_pos c56] at H
                    have c56b0 : decide (t251 < 0) = true := decide_eq_true c56
                    clear c56
                    obtain rfl := Option.some.inj H
                    have hnb57 := NB239_228.out
                    have hnc57 := NB228_239.out
                    have hcz58_0 : wc.cell? ⟨gb239, 0, none⟩ = some (.slice Ao19 t232.length co19) := (blk_cell BK239.out 0).trans rfl
                    have hcz58_1 : wc.cell? ⟨gb239, 1, none⟩ = some (.slice Ao22 t235.length co22) := (blk_cell BK239.out 1).trans rfl
                    have hfz58_0 := blk_frozen BK239.out 0
                    have hfz58_1 := blk_frozen BK239.out 1
                    go_wp2_with (first | ((with_reducible refine gate_callee (f := 28) rfl ?_); refine goesL_ (some 61) rfl rfl Try.func28 (by kernel_rfl) rfl #[.agg #[.slice Ao19 t232.length co19, .slice Ao22 t235.length co22], .int .i64 1] rfl (by (try simp only [List.map_toArray, List.map_cons, List.map_nil]); first | done | rfl | (simp only [List.length_drop, List.length_take]; rfl)) ?_; (with_reducible refine (laws_markMeander.calls kj37 (fun k_ => some k_ = (.slice Ao19 t232.length co19 : Value).ownBlock) (.slice Ao19 t232.length co19) t232 (fun k_ => some k_ = (.slice Ao22 t235.length co22 : Value).ownBlock) (.slice Ao22 t235.length co22) t235 1 t248 t249 t250 w _ ?side1 ?side2 ?side3 ?side4 ?side5 A54.out).mono ?_); (case side1 => repeat (first | (with_reducible first | exact HB.out | apply below_alloc | apply pw_below_drewN | apply below_drew1 | refine below_set ?_ GE228.out | refine below_set ?_ GE239.out) | exact HB.out)); (case side2 => exact Kd.R_tight rfl HO_240000.out); (case side3 => exact fun k_ e_ => (HO_240000.out.1 k_ e_.symm).2.2); (case side4 => exact Kd.R_tight rfl HO_240001.out); (case side5 => exact fun k_ e_ => (HO_240001.out.1 k_ e_.symm).2.2); rintro e w59 ⟨rfl, hy0, hy1, hb, hkp⟩; refine ⟨_, rfl, ?_⟩; have n0_ := Aside0.mk (Kd.R_mono (ok' := fun k_ => some k_ ≠ (.slice Ao14 t224.length co14 : Value).ownBlock ∧ some k_ ≠ (.slice Ao19 t232.length co19 : Value).ownBlock ∧ some k_ ≠ (.slice Ao22 t235.length co22 : Value).ownBlock) (Kd.R_keptB (HO_229000.out) hkp (fun k_ hk_ hs_ => Or.elim hs_ (fun e_ => (hk_.2.1) e_) (fun e_ => (hk_.2.2) e_))) (fun k_ hk_ => ⟨hk_.1.1, hk_.1.2.1, hk_.1.2.2⟩)); have n1_ := Aside0.mk (Kd.R_mono (ok' := fun k_ => some k_ ≠ (.slice Ao12 t221.length co12 : Value).ownBlock ∧ some k_ ≠ (.slice Ao19 t232.length co19 : Value).ownBlock ∧ some k_ ≠ (.slice Ao22 t235.length co22 : Value).ownBlock) (Kd.R_keptB (HO_229001.out) hkp (fun k_ hk_ hs_ => Or.elim hs_ (fun e_ => (hk_.2.1) e_) (fun e_ => (hk_.2.2) e_))) (fun k_ hk_ => ⟨hk_.1.1, hk_.1.2.1, hk_.1.2.2⟩)); have n2_ := Aside0.mk (Kd.R_reok rfl hy0 (fun k_ e_ => HO_240000.out.1 k_ e_)); have n3_ := Aside0.mk (Kd.R_reok rfl hy1 (fun k_ e_ => HO_240001.out.1 k_ e_)); have n4_ := Aside0.mk (blk_kept (by (with_reducible repeat (first | refine blk_drewN ?_ _ | refine blk_drew ?_ | refine blk_alloc ?_ _)); exact BK228.out) hkp (fun hs_ => Or.elim hs_ (fun e_ => (fun e_ => (Kd.R_ne HO_240000.out BK228.out (by decide)) e_) e_) (fun e_ => (fun e_ => (Kd.R_ne HO_240001.out BK228.out (by decide)) e_) e_))); have n5_ := Aside0.mk (blk_kept (by (with_reducible repeat (first | refine blk_drewN ?_ _ | refine blk_drew ?_ | refine blk_alloc ?_ _)); exact BK239.out) hkp (fun hs_ => Or.elim hs_ (fun e_ => (fun e_ => (Kd.R_ne HO_240000.out BK239.out (by decide)) e_) e_) (fun e_ => (fun e_ => (Kd.R_ne HO_240001.out BK239.out (by decide)) e_) e_))); have n6_ := Aside0.mk (hb); clear HO_229000; clear HO_229001; clear HO_240000; clear HO_240001; clear BK228; clear BK239; clear HB; have HO_229000 := n0_; have HO_229001 := n1_; have HO_240000 := n2_; have HO_240001 := n3_; have BK228 := n4_; have BK239 := n5_; have HB := n6_; clear n0_ n1_ n2_ n3_ n4_ n5_ n6_; (try clear hb); (try clear hkp); (try clear hy0); (try clear hy1); have hcz60_0 : w59.cell? ⟨gb239, 0, none⟩ = some (.slice Ao19 t232.length co19) := (blk_cell BK239.out 0).trans rfl; have hcz60_1 : w59.cell? ⟨gb239, 1, none⟩ = some (.slice Ao22 t235.length co22) := (blk_cell BK239.out 1).trans rfl; have hfz60_0 := blk_frozen BK239.out 0; have hfz60_1 := blk_frozen BK239.out 1) | ((with_reducible refine gate_callee (f := 29) rfl ?_); refine goesL_ (some 64) rfl rfl Try.func29 (by kernel_rfl) rfl #[.agg #[.slice Ao19 t249.length co19, .slice Ao22 t250.length co22], .int .i64 1] rfl (by (try simp only [List.map_toArray, List.map_cons, List.map_nil]); first | done | (rw [show t249.length = t232.length from (Kd.R_reads' HO_240000.out).1.symm, show t250.length = t235.length from (Kd.R_reads' HO_240001.out).1.symm] <;> rfl) | rfl | (simp only [List.length_drop, List.length_take]; rfl)) ?_; (with_reducible refine (laws_heldMeander.calls kj37 _ _ t249 _ _ t250 1 t251 _ ?side1 ?side2 ?side3 ?side4 A55.out).mono ?_); (case side1 => repeat (first | exact (Kd.R_reads' HO_240000.out).2.2 | (with_reducible refine Kd.C_alloc ?_ _) | (with_reducible refine Kd.C_drewN ?_ _) | (with_reducible refine Kd.C_drew ?_))); (case side2 => rw [show t249.length = t232.length from (Kd.R_reads' HO_240000.out).1.symm]; exact (Kd.R_reads' HO_240000.out).2.1); (case side3 => repeat (first | exact (Kd.R_reads' HO_240001.out).2.2 | (with_reducible refine Kd.C_alloc ?_ _) | (with_reducible refine Kd.C_drewN ?_ _) | (with_reducible refine Kd.C_drew ?_))); (case side4 => rw [show t250.length = t235.length from (Kd.R_reads' HO_240001.out).1.symm]; exact (Kd.R_reads' HO_240001.out).2.1); rintro e w61 ⟨rfl, hb⟩; refine ⟨_, rfl, ?_⟩; have n0_ := Aside0.mk (Kd.R_below (by (with_reducible repeat (first | apply Kd.R_alloc | apply Kd.R_drewN | apply Kd.R_drew)); exact HO_229000.out) hb); have n1_ := Aside0.mk (Kd.R_below (by (with_reducible repeat (first | apply Kd.R_alloc | apply Kd.R_drewN | apply Kd.R_drew)); exact HO_229001.out) hb); have n2_ := Aside0.mk (Kd.R_below (by (with_reducible repeat (first | apply Kd.R_alloc | apply Kd.R_drewN | apply Kd.R_drew)); exact HO_240000.out) hb); have n3_ := Aside0.mk (Kd.R_below (by (with_reducible repeat (first | apply Kd.R_alloc | apply Kd.R_drewN | apply Kd.R_drew)); exact HO_240001.out) hb); have n4_ := Aside0.mk (blk_below (g := gb228) (o := .cells #[.slice Ao12 t221.length co12, .slice Ao14 t224.length co14] 34 (0, 0)) (by (with_reducible repeat (first | refine blk_drewN ?_ _ | refine blk_drew ?_ | refine blk_alloc ?_ _)); exact BK228.out) hb); have n5_ := Aside0.mk (blk_below (g := gb239) (o := .cells #[.slice Ao19 t232.length co19, .slice Ao22 t235.length co22] 34 (0, 0)) (by (with_reducible repeat (first | refine blk_drewN ?_ _ | refine blk_drew ?_ | refine blk_alloc ?_ _)); exact BK239.out) hb); have n6_ := Aside0.mk (below_step (by repeat (first | (with_reducible first | exact HB.out | apply below_alloc | apply pw_below_drewN | apply below_drew1 | refine below_set ?_ GE228.out | refine below_set ?_ GE239.out) | exact HB.out)) hb); clear HO_229000; clear HO_229001; clear HO_240000; clear HO_240001; clear BK228; clear BK239; clear HB; have HO_229000 := n0_; have HO_229001 := n1_; have HO_240000 := n2_; have HO_240001 := n3_; have BK228 := n4_; have BK239 := n5_; have HB := n6_; clear n0_ n1_ n2_ n3_ n4_ n5_ n6_; (try clear hb); (try clear hb2); (try clear hk); (try clear hi)))
                    go_ret
                    exact ⟨by first | rfl | (simp [errW_none, errW_some] <;> rfl) | (simp [*, errW_none, errW_some] <;> rfl), by repeat (first | (with_reducible first | exact HB.out | apply below_alloc | apply pw_below_drewN | apply below_drew1 | refine below_set ?_ GE228.out | refine below_set ?_ GE239.out) | exact HB.out)⟩
                  · rw [if_neg c56] at H
                    have c56b0 : decide (t251 < 0) = false := decide_eq_false c56
                    clear c56
                    by_cases c62 : t251 = t248
                    · rw [if_pos c62] at H
                      have c62b0 : (t251 == t248) = true := beq_iff_eq.mpr c62
                      have c62b1 : (t251 != t248) = false := bne_eq_false_iff_eq.mpr c62
                      clear c62
                      replace H := Option.bind_eq_some_iff.mp H
                      obtain ⟨t252, A630, H⟩ := H
                      replace H : ((impl_PairOfSteps.f kj37 t252).bind fun bt255 => ((laws_eqMeander.f kj37 bt255.1 bt255.2.1 t221 t224).bind fun t263 => (if t263 = true then (laws_FnExactPairOfSteps.j2 kj37 t248 (bt255.2.2 != t227) t249 t250) else (laws_FnExactPairOfSteps.j2 kj37 t248 true t249 t250)))) = some r := H
                      have A63 := Aside0.mk A630
                      clear A630
                      replace H := Option.bind_eq_some_iff.mp H
                      obtain ⟨⟨t255, t258, t261⟩, A640, H⟩ := H
                      replace H : ((laws_eqMeander.f kj37 t255 t258 t221 t224).bind fun t263 => (if t263 = true then (laws_FnExactPairOfSteps.j2 kj37 t248 (t261 != t227) t249 t250) else (laws_FnExactPairOfSteps.j2 kj37 t248 true t249 t250))) = some r := H
                      have A64 := Aside0.mk A640
                      clear A640
                      have HC65 := Aside0.mk H
                      clear H
                      have hnb66 := NB239_228.out
                      have hnc66 := NB228_239.out
                      have hcz67_0 : wc.cell? ⟨gb239, 0, none⟩ = some (.slice Ao19 t232.length co19) := (blk_cell BK239.out 0).trans rfl
                      have hcz67_1 : wc.cell? ⟨gb239, 1, none⟩ = some (.slice Ao22 t235.length co22) := (blk_cell BK239.out 1).trans rfl
                      have hfz67_0 := blk_frozen BK239.out 0
                      have hfz67_1 := blk_frozen BK239.out 1
                      go_upto_region 23 with (first | ((with_reducible refine gate_callee (f := 28) rfl ?_); refine goesL_ (some 61) rfl rfl Try.func28 (by kernel_rfl) rfl #[.agg #[.slice Ao19 t232.length co19, .slice Ao22 t235.length co22], .int .i64 1] rfl (by (try simp only [List.map_toArray, List.map_cons, List.map_nil]); first | done | rfl | (simp only [List.length_drop, List.length_take]; rfl)) ?_; (with_reducible refine (laws_markMeander.calls kj37 (fun k_ => some k_ = (.slice Ao19 t232.length co19 : Value).ownBlock) (.slice Ao19 t232.length co19) t232 (fun k_ => some k_ = (.slice Ao22 t235.length co22 : Value).ownBlock) (.slice Ao22 t235.length co22) t235 1 t248 t249 t250 w _ ?side1 ?side2 ?side3 ?side4 ?side5 A54.out).mono ?_); (case side1 => repeat (first | (with_reducible first | exact HB.out | apply below_alloc | apply pw_below_drewN | apply below_drew1 | refine below_set ?_ GE228.out | refine below_set ?_ GE239.out) | exact HB.out)); (case side2 => exact Kd.R_tight rfl HO_240000.out); (case side3 => exact fun k_ e_ => (HO_240000.out.1 k_ e_.symm).2.2); (case side4 => exact Kd.R_tight rfl HO_240001.out); (case side5 => exact fun k_ e_ => (HO_240001.out.1 k_ e_.symm).2.2); rintro e w68 ⟨rfl, hy0, hy1, hb, hkp⟩; refine ⟨_, rfl, ?_⟩; have n0_ := Aside0.mk (Kd.R_mono (ok' := fun k_ => some k_ ≠ (.slice Ao14 t224.length co14 : Value).ownBlock ∧ some k_ ≠ (.slice Ao19 t232.length co19 : Value).ownBlock ∧ some k_ ≠ (.slice Ao22 t235.length co22 : Value).ownBlock) (Kd.R_keptB (HO_229000.out) hkp (fun k_ hk_ hs_ => Or.elim hs_ (fun e_ => (hk_.2.1) e_) (fun e_ => (hk_.2.2) e_))) (fun k_ hk_ => ⟨hk_.1.1, hk_.1.2.1, hk_.1.2.2⟩)); have n1_ := Aside0.mk (Kd.R_mono (ok' := fun k_ => some k_ ≠ (.slice Ao12 t221.length co12 : Value).ownBlock ∧ some k_ ≠ (.slice Ao19 t232.length co19 : Value).ownBlock ∧ some k_ ≠ (.slice Ao22 t235.length co22 : Value).ownBlock) (Kd.R_keptB (HO_229001.out) hkp (fun k_ hk_ hs_ => Or.elim hs_ (fun e_ => (hk_.2.1) e_) (fun e_ => (hk_.2.2) e_))) (fun k_ hk_ => ⟨hk_.1.1, hk_.1.2.1, hk_.1.2.2⟩)); have n2_ := Aside0.mk (Kd.R_reok rfl hy0 (fun k_ e_ => HO_240000.out.1 k_ e_)); have n3_ := Aside0.mk (Kd.R_reok rfl hy1 (fun k_ e_ => HO_240001.out.1 k_ e_)); have n4_ := Aside0.mk (blk_kept (by (with_reducible repeat (first | refine blk_drewN ?_ _ | refine blk_drew ?_ | refine blk_alloc ?_ _)); exact BK228.out) hkp (fun hs_ => Or.elim hs_ (fun e_ => (fun e_ => (Kd.R_ne HO_240000.out BK228.out (by decide)) e_) e_) (fun e_ => (fun e_ => (Kd.R_ne HO_240001.out BK228.out (by decide)) e_) e_))); have n5_ := Aside0.mk (blk_kept (by (with_reducible repeat (first | refine blk_drewN ?_ _ | refine blk_drew ?_ | refine blk_alloc ?_ _)); exact BK239.out) hkp (fun hs_ => Or.elim hs_ (fun e_ => (fun e_ => (Kd.R_ne HO_240000.out BK239.out (by decide)) e_) e_) (fun e_ => (fun e_ => (Kd.R_ne HO_240001.out BK239.out (by decide)) e_) e_))); have n6_ := Aside0.mk (hb); clear HO_229000; clear HO_229001; clear HO_240000; clear HO_240001; clear BK228; clear BK239; clear HB; have HO_229000 := n0_; have HO_229001 := n1_; have HO_240000 := n2_; have HO_240001 := n3_; have BK228 := n4_; have BK239 := n5_; have HB := n6_; clear n0_ n1_ n2_ n3_ n4_ n5_ n6_; (try clear hb); (try clear hkp); (try clear hy0); (try clear hy1); have hcz69_0 : w68.cell? ⟨gb239, 0, none⟩ = some (.slice Ao19 t232.length co19) := (blk_cell BK239.out 0).trans rfl; have hcz69_1 : w68.cell? ⟨gb239, 1, none⟩ = some (.slice Ao22 t235.length co22) := (blk_cell BK239.out 1).trans rfl; have hfz69_0 := blk_frozen BK239.out 0; have hfz69_1 := blk_frozen BK239.out 1) | ((with_reducible refine gate_callee (f := 29) rfl ?_); refine goesL_ (some 64) rfl rfl Try.func29 (by kernel_rfl) rfl #[.agg #[.slice Ao19 t249.length co19, .slice Ao22 t250.length co22], .int .i64 1] rfl (by (try simp only [List.map_toArray, List.map_cons, List.map_nil]); first | done | (rw [show t249.length = t232.length from (Kd.R_reads' HO_240000.out).1.symm, show t250.length = t235.length from (Kd.R_reads' HO_240001.out).1.symm] <;> rfl) | rfl | (simp only [List.length_drop, List.length_take]; rfl)) ?_; (with_reducible refine (laws_heldMeander.calls kj37 _ _ t249 _ _ t250 1 t251 _ ?side1 ?side2 ?side3 ?side4 A55.out).mono ?_); (case side1 => repeat (first | exact (Kd.R_reads' HO_240000.out).2.2 | (with_reducible refine Kd.C_alloc ?_ _) | (with_reducible refine Kd.C_drewN ?_ _) | (with_reducible refine Kd.C_drew ?_))); (case side2 => rw [show t249.length = t232.length from (Kd.R_reads' HO_240000.out).1.symm]; exact (Kd.R_reads' HO_240000.out).2.1); (case side3 => repeat (first | exact (Kd.R_reads' HO_240001.out).2.2 | (with_reducible refine Kd.C_alloc ?_ _) | (with_reducible refine Kd.C_drewN ?_ _) | (with_reducible refine Kd.C_drew ?_))); (case side4 => rw [show t250.length = t235.length from (Kd.R_reads' HO_240001.out).1.symm]; exact (Kd.R_reads' HO_240001.out).2.1); rintro e w70 ⟨rfl, hb⟩; refine ⟨_, rfl, ?_⟩; have n0_ := Aside0.mk (Kd.R_below (by (with_reducible repeat (first | apply Kd.R_alloc | apply Kd.R_drewN | apply Kd.R_drew)); exact HO_229000.out) hb); have n1_ := Aside0.mk (Kd.R_below (by (with_reducible repeat (first | apply Kd.R_alloc | apply Kd.R_drewN | apply Kd.R_drew)); exact HO_229001.out) hb); have n2_ := Aside0.mk (Kd.R_below (by (with_reducible repeat (first | apply Kd.R_alloc | apply Kd.R_drewN | apply Kd.R_drew)); exact HO_240000.out) hb); have n3_ := Aside0.mk (Kd.R_below (by (with_reducible repeat (first | apply Kd.R_alloc | apply Kd.R_drewN | apply Kd.R_drew)); exact HO_240001.out) hb); have n4_ := Aside0.mk (blk_below (g := gb228) (o := .cells #[.slice Ao12 t221.length co12, .slice Ao14 t224.length co14] 34 (0, 0)) (by (with_reducible repeat (first | refine blk_drewN ?_ _ | refine blk_drew ?_ | refine blk_alloc ?_ _)); exact BK228.out) hb); have n5_ := Aside0.mk (blk_below (g := gb239) (o := .cells #[.slice Ao19 t232.length co19, .slice Ao22 t235.length co22] 34 (0, 0)) (by (with_reducible repeat (first | refine blk_drewN ?_ _ | refine blk_drew ?_ | refine blk_alloc ?_ _)); exact BK239.out) hb); have n6_ := Aside0.mk (below_step (by repeat (first | (with_reducible first | exact HB.out | apply below_alloc | apply pw_below_drewN | apply below_drew1 | refine below_set ?_ GE228.out | refine below_set ?_ GE239.out) | exact HB.out)) hb); clear HO_229000; clear HO_229001; clear HO_240000; clear HO_240001; clear BK228; clear BK239; clear HB; have HO_229000 := n0_; have HO_229001 := n1_; have HO_240000 := n2_; have HO_240001 := n3_; have BK228 := n4_; have BK239 := n5_; have HB := n6_; clear n0_ n1_ n2_ n3_ n4_ n5_ n6_; (try clear hb); (try clear hb2); (try clear hk); (try clear hi)) | ((with_reducible refine gate_callee (f := 23) rfl ?_); refine goesL_ (some 72) rfl rfl Try.func23 (by kernel_rfl) rfl #[.slice A0 l0.length c0] rfl (by (try simp only [List.map_toArray, List.map_cons, List.map_nil]); first | done | rfl | (simp only [List.length_drop, List.length_take]; rfl)) ?_; (with_reducible refine (laws_toIntS.calls kj37 _ _ l0 t252 _ ?side1 ?side2 A63.out).mono ?_); (case side1 => repeat (first | exact (Kd.C_below HR0.out HB.out) | (with_reducible refine Kd.C_alloc ?_ _) | (with_reducible refine Kd.C_drewN ?_ _) | (with_reducible refine Kd.C_drew ?_))); (case side2 => exact HC0.out); rintro e w71 ⟨v253, rfl, ho0, hb⟩; refine ⟨_, rfl, ?_⟩; have n0_ := Aside0.mk (Kd.R_elder' (by (with_reducible repeat (first | apply Kd.R_alloc | apply Kd.R_drewN | apply Kd.R_drew)); exact HO_229000.out) (Kd.R_base ho0) hb); have n1_ := Aside0.mk (Kd.R_elder' (by (with_reducible repeat (first | apply Kd.R_alloc | apply Kd.R_drewN | apply Kd.R_drew)); exact HO_229001.out) (Kd.R_base ho0) hb); have n2_ := Aside0.mk (Kd.R_elder' (by (with_reducible repeat (first | apply Kd.R_alloc | apply Kd.R_drewN | apply Kd.R_drew)); exact HO_240000.out) (Kd.R_base ho0) hb); have n3_ := Aside0.mk (Kd.R_elder' (by (with_reducible repeat (first | apply Kd.R_alloc | apply Kd.R_drewN | apply Kd.R_drew)); exact HO_240001.out) (Kd.R_base ho0) hb); have n4_ := Aside0.mk (Kd.R_lower (Kd.R_new' (Kd.R_new' (Kd.R_new' (Kd.R_new' ho0 (Kd.R_lt (by (with_reducible repeat (first | apply Kd.R_alloc | apply Kd.R_drewN | apply Kd.R_drew)); exact HO_229000.out))) (Kd.R_lt (by (with_reducible repeat (first | apply Kd.R_alloc | apply Kd.R_drewN | apply Kd.R_drew)); exact HO_229001.out))) (Kd.R_lt (by (with_reducible repeat (first | apply Kd.R_alloc | apply Kd.R_drewN | apply Kd.R_drew)); exact HO_240000.out))) (Kd.R_lt (by (with_reducible repeat (first | apply Kd.R_alloc | apply Kd.R_drewN | apply Kd.R_drew)); exact HO_240001.out))) (below_size (by repeat (first | (with_reducible first | exact HB.out | apply below_alloc | apply pw_below_drewN | apply below_drew1 | refine below_set ?_ GE228.out | refine below_set ?_ GE239.out) | exact HB.out)))); have n5_ := Aside0.mk (blk_below (g := gb228) (o := .cells #[.slice Ao12 t221.length co12, .slice Ao14 t224.length co14] 34 (0, 0)) (by (with_reducible repeat (first | refine blk_drewN ?_ _ | refine blk_drew ?_ | refine blk_alloc ?_ _)); exact BK228.out) hb); have n6_ := Aside0.mk (blk_below (g := gb239) (o := .cells #[.slice Ao19 t232.length co19, .slice Ao22 t235.length co22] 34 (0, 0)) (by (with_reducible repeat (first | refine blk_drewN ?_ _ | refine blk_drew ?_ | refine blk_alloc ?_ _)); exact BK239.out) hb); have n7_ := Aside0.mk (below_step (by repeat (first | (with_reducible first | exact HB.out | apply below_alloc | apply pw_below_drewN | apply below_drew1 | refine below_set ?_ GE228.out | refine below_set ?_ GE239.out) | exact HB.out)) hb); clear HO_229000; clear HO_229001; clear HO_240000; clear HO_240001; clear BK228; clear BK239; clear HB; have HO_229000 := n0_; have HO_229001 := n1_; have HO_240000 := n2_; have HO_240001 := n3_; have HO254 := n4_; have BK228 := n5_; have BK239 := n6_; have HB := n7_; clear n0_ n1_ n2_ n3_ n4_ n5_ n6_ n7_; (try clear hb); (try clear hb2); (try clear hk); (try clear hi); (try clear ho0); obtain ⟨Ao72, co72, eo72⟩ := Kd.R_slice HO254.out; subst eo72) | ((with_reducible refine gate_callee (f := 24) rfl ?_); refine goesL_ (some 73) rfl rfl Try.func24 (by kernel_rfl) rfl #[.slice Ao72 t252.length co72] rfl (by (try simp only [List.map_toArray, List.map_cons, List.map_nil]); first | done | rfl | (simp only [List.length_drop, List.length_take]; rfl)) ?_; (with_reducible refine (impl_PairOfSteps.calls kj37 _ _ t252 t255 t258 t261 _ ?side1 ?side2 A64.out).mono ?_); (case side1 => repeat (first | exact (Kd.R_reads' HO254.out).2.2 | (with_reducible refine Kd.C_alloc ?_ _) | (with_reducible refine Kd.C_drewN ?_ _) | (with_reducible refine Kd.C_drew ?_))); (case side2 => exact (Kd.R_reads' HO254.out).2.1); rintro e w73 ⟨v256, v259, rfl, ho0, ho1, hb⟩; refine ⟨_, rfl, ?_⟩; have n0_ := Aside0.mk (Kd.R_mono (Kd.R_told (Kd.R_told (Kd.R_old (by (with_reducible repeat (first | apply Kd.R_alloc | apply Kd.R_drewN | apply Kd.R_drew)); exact HO_229000.out) hb) (Kd.R_base ho0)) (Kd.R_base ho1)) (fun _ h_ => h_.1)); have n1_ := Aside0.mk (Kd.R_mono (Kd.R_told (Kd.R_told (Kd.R_old (by (with_reducible repeat (first | apply Kd.R_alloc | apply Kd.R_drewN | apply Kd.R_drew)); exact HO_229001.out) hb) (Kd.R_base ho0)) (Kd.R_base ho1)) (fun _ h_ => h_.1)); have n2_ := Aside0.mk (Kd.R_mono (Kd.R_told (Kd.R_told (Kd.R_old (by (with_reducible repeat (first | apply Kd.R_alloc | apply Kd.R_drewN | apply Kd.R_drew)); exact HO_240000.out) hb) (Kd.R_base ho0)) (Kd.R_base ho1)) (fun _ h_ => h_.1)); have n3_ := Aside0.mk (Kd.R_mono (Kd.R_told (Kd.R_told (Kd.R_old (by (with_reducible repeat (first | apply Kd.R_alloc | apply Kd.R_drewN | apply Kd.R_drew)); exact HO_240001.out) hb) (Kd.R_base ho0)) (Kd.R_base ho1)) (fun _ h_ => h_.1)); have n4_ := Aside0.mk (Kd.R_mono (Kd.R_told (Kd.R_told (Kd.R_old (by (with_reducible repeat (first | apply Kd.R_alloc | apply Kd.R_drewN | apply Kd.R_drew)); exact HO254.out) hb) (Kd.R_base ho0)) (Kd.R_base ho1)) (fun _ h_ => h_.1)); have n5_ := Aside0.mk (Kd.R_lower (Kd.R_new' (Kd.R_new' (Kd.R_new' (Kd.R_new' (Kd.R_new' ho0 (Kd.R_lt (by (with_reducible repeat (first | apply Kd.R_alloc | apply Kd.R_drewN | apply Kd.R_drew)); exact HO_229000.out))) (Kd.R_lt (by (with_reducible repeat (first | apply Kd.R_alloc | apply Kd.R_drewN | apply Kd.R_drew)); exact HO_229001.out))) (Kd.R_lt (by (with_reducible repeat (first | apply Kd.R_alloc | apply Kd.R_drewN | apply Kd.R_drew)); exact HO_240000.out))) (Kd.R_lt (by (with_reducible repeat (first | apply Kd.R_alloc | apply Kd.R_drewN | apply Kd.R_drew)); exact HO_240001.out))) (Kd.R_lt (by (with_reducible repeat (first | apply Kd.R_alloc | apply Kd.R_drewN | apply Kd.R_drew)); exact HO254.out))) (below_size (by repeat (first | (with_reducible first | exact HB.out | apply below_alloc | apply pw_below_drewN | apply below_drew1 | refine below_set ?_ GE228.out | refine below_set ?_ GE239.out) | exact HB.out)))); have n6_ := Aside0.mk (Kd.R_lower (Kd.R_new' (Kd.R_new' (Kd.R_new' (Kd.R_new' (Kd.R_new' ho1 (Kd.R_lt (by (with_reducible repeat (first | apply Kd.R_alloc | apply Kd.R_drewN | apply Kd.R_drew)); exact HO_229000.out))) (Kd.R_lt (by (with_reducible repeat (first | apply Kd.R_alloc | apply Kd.R_drewN | apply Kd.R_drew)); exact HO_229001.out))) (Kd.R_lt (by (with_reducible repeat (first | apply Kd.R_alloc | apply Kd.R_drewN | apply Kd.R_drew)); exact HO_240000.out))) (Kd.R_lt (by (with_reducible repeat (first | apply Kd.R_alloc | apply Kd.R_drewN | apply Kd.R_drew)); exact HO_240001.out))) (Kd.R_lt (by (with_reducible repeat (first | apply Kd.R_alloc | apply Kd.R_drewN | apply Kd.R_drew)); exact HO254.out))) (below_size (by repeat (first | (with_reducible first | exact HB.out | apply below_alloc | apply pw_below_drewN | apply below_drew1 | refine below_set ?_ GE228.out | refine below_set ?_ GE239.out) | exact HB.out)))); have n7_ := Aside0.mk (blk_below (g := gb228) (o := .cells #[.slice Ao12 t221.length co12, .slice Ao14 t224.length co14] 34 (0, 0)) (by (with_reducible repeat (first | refine blk_drewN ?_ _ | refine blk_drew ?_ | refine blk_alloc ?_ _)); exact BK228.out) hb); have n8_ := Aside0.mk (blk_below (g := gb239) (o := .cells #[.slice Ao19 t232.length co19, .slice Ao22 t235.length co22] 34 (0, 0)) (by (with_reducible repeat (first | refine blk_drewN ?_ _ | refine blk_drew ?_ | refine blk_alloc ?_ _)); exact BK239.out) hb); have n9_ := Aside0.mk (below_step (by repeat (first | (with_reducible first | exact HB.out | apply below_alloc | apply pw_below_drewN | apply below_drew1 | refine below_set ?_ GE228.out | refine below_set ?_ GE239.out) | exact HB.out)) hb); clear HO_229000; clear HO_229001; clear HO_240000; clear HO_240001; clear HO254; clear BK228; clear BK239; clear HB; have HO_229000 := n0_; have HO_229001 := n1_; have HO_240000 := n2_; have HO_240001 := n3_; have HO254 := n4_; have HO257 := n5_; have HO260 := n6_; have BK228 := n7_; have BK239 := n8_; have HB := n9_; clear n0_ n1_ n2_ n3_ n4_ n5_ n6_ n7_ n8_ n9_; (try clear hb); (try clear hb2); (try clear hk); (try clear hi); (try clear ho0); (try clear ho1)) | ((with_reducible refine gate_dst (N := 11) rfl ?_); refine box_event ?hg (N := 11) ?hd (cs := #[.slice none 0 0, .slice none 0 0]) (t := 34) ?hr ?_; (case hd => rfl); (case hg => rfl); (case hr => first | (go_simp; done) | (go_simp; rfl)); intro gb262 hg w74 hbox hb; have n0_ := Aside0.mk (Kd.R_below (by (with_reducible repeat (first | apply Kd.R_alloc | apply Kd.R_drewN | apply Kd.R_drew)); exact HO_229000.out) hb); have n1_ := Aside0.mk (Kd.R_below (by (with_reducible repeat (first | apply Kd.R_alloc | apply Kd.R_drewN | apply Kd.R_drew)); exact HO_229001.out) hb); have n2_ := Aside0.mk (Kd.R_below (by (with_reducible repeat (first | apply Kd.R_alloc | apply Kd.R_drewN | apply Kd.R_drew)); exact HO_240000.out) hb); have n3_ := Aside0.mk (Kd.R_below (by (with_reducible repeat (first | apply Kd.R_alloc | apply Kd.R_drewN | apply Kd.R_drew)); exact HO_240001.out) hb); have n4_ := Aside0.mk (Kd.R_below (by (with_reducible repeat (first | apply Kd.R_alloc | apply Kd.R_drewN | apply Kd.R_drew)); exact HO254.out) hb); have n5_ := Aside0.mk (Kd.R_below (by (with_reducible repeat (first | apply Kd.R_alloc | apply Kd.R_drewN | apply Kd.R_drew)); exact HO257.out) hb); have n6_ := Aside0.mk (Kd.R_below (by (with_reducible repeat (first | apply Kd.R_alloc | apply Kd.R_drewN | apply Kd.R_drew)); exact HO260.out) hb); have n7_ := Aside0.mk (blk_below (g := gb228) (o := .cells #[.slice Ao12 t221.length co12, .slice Ao14 t224.length co14] 34 (0, 0)) (by (with_reducible repeat (first | refine blk_drewN ?_ _ | refine blk_drew ?_ | refine blk_alloc ?_ _)); exact BK228.out) hb); have n8_ := Aside0.mk (blk_below (g := gb239) (o := .cells #[.slice Ao19 t232.length co19, .slice Ao22 t235.length co22] 34 (0, 0)) (by (with_reducible repeat (first | refine blk_drewN ?_ _ | refine blk_drew ?_ | refine blk_alloc ?_ _)); exact BK239.out) hb); have n9_ := Aside0.mk (below_step (by repeat (first | (with_reducible first | exact HB.out | apply below_alloc | apply pw_below_drewN | apply below_drew1 | refine below_set ?_ GE228.out | refine below_set ?_ GE239.out) | exact HB.out)) hb); have n10_ := Aside0.mk (hbox); have n11_ := Aside0.mk ((by rw [hg]; exact (below_size (by repeat (first | (with_reducible first | exact HB.out | apply below_alloc | apply pw_below_drewN | apply below_drew1 | refine below_set ?_ GE228.out | refine below_set ?_ GE239.out) | exact HB.out))) : w.heap.size ≤ gb262)); have n12_ := Aside0.mk ((by rw [hg]; exact (below_size (by repeat (first | (with_reducible first | exact HB.out | apply below_alloc | apply pw_below_drewN | apply below_drew1 | refine below_set ?_ GE228.out | refine below_set ?_ GE239.out) | exact HB.out))) : w.heap.size ≤ gb262)); have n13_ := Aside0.mk ((by rw [hg]; exact Nat.ne_of_lt (blk_lt (g := gb228) (o := .cells #[.slice Ao12 t221.length co12, .slice Ao14 t224.length co14] 34 (0, 0)) (by (with_reducible repeat (first | refine blk_drewN ?_ _ | refine blk_drew ?_ | refine blk_alloc ?_ _)); exact BK228.out)) : gb228 ≠ gb262)); have n14_ := Aside0.mk ((by rw [hg]; exact Nat.ne_of_gt (blk_lt (g := gb228) (o := .cells #[.slice Ao12 t221.length co12, .slice Ao14 t224.length co14] 34 (0, 0)) (by (with_reducible repeat (first | refine blk_drewN ?_ _ | refine blk_drew ?_ | refine blk_alloc ?_ _)); exact BK228.out)) : gb262 ≠ gb228)); have n15_ := Aside0.mk ((by rw [hg]; exact Nat.ne_of_lt (blk_lt (g := gb239) (o := .cells #[.slice Ao19 t232.length co19, .slice Ao22 t235.length co22] 34 (0, 0)) (by (with_reducible repeat (first | refine blk_drewN ?_ _ | refine blk_drew ?_ | refine blk_alloc ?_ _)); exact BK239.out)) : gb239 ≠ gb262)); have n16_ := Aside0.mk ((by rw [hg]; exact Nat.ne_of_gt (blk_lt (g := gb239) (o := .cells #[.slice Ao19 t232.length co19, .slice Ao22 t235.length co22] 34 (0, 0)) (by (with_reducible repeat (first | refine blk_drewN ?_ _ | refine blk_drew ?_ | refine blk_alloc ?_ _)); exact BK239.out)) : gb262 ≠ gb239)); clear HO_229000; clear HO_229001; clear HO_240000; clear HO_240001; clear HO254; clear HO257; clear HO260; clear BK228; clear BK239; clear HB; have HO_229000 := n0_; have HO_229001 := n1_; have HO_240000 := n2_; have HO_240001 := n3_; have HO254 := n4_; have HO257 := n5_; have HO260 := n6_; have BK228 := n7_; have BK239 := n8_; have HB := n9_; have BK262 := n10_; have GW262 := n11_; have GE262 := n12_; have NB228_262 := n13_; have NB262_228 := n14_; have NB239_262 := n15_; have NB262_239 := n16_; clear n0_ n1_ n2_ n3_ n4_ n5_ n6_ n7_ n8_ n9_ n10_ n11_ n12_ n13_ n14_ n15_ n16_; clear hb hbox hg; obtain ⟨Ao75, co75, eo75⟩ := Kd.R_slice HO257.out; subst eo75; have hnb76 := NB262_228.out; have hnc76 := NB228_262.out; have hnb77 := NB262_239.out; have hnc77 := NB239_262.out; have hcz78_0 : w74.cell? ⟨gb262, 0, none⟩ = some (.slice none 0 0) := (blk_cell BK262.out 0).trans rfl; have hcz78_1 : w74.cell? ⟨gb262, 1, none⟩ = some (.slice none 0 0) := (blk_cell BK262.out 1).trans rfl; have hfz78_0 := blk_frozen BK262.out 0; have hfz78_1 := blk_frozen BK262.out 1; obtain ⟨Ao79, co79, eo79⟩ := Kd.R_slice HO260.out; subst eo79))
                      (try simp only [Act.put, List.setIfInBounds_toArray, List.set_cons_zero, List.set_cons_succ])
                      go_cut [84] (fun v84 wc => ∃ (kq : Nat) (x84_64 : Bool), v84 = .bool x84_64 ∧ Aside0 (laws_FnExactPairOfSteps.j2 kq t248 x84_64 t249 t250 = some r) ∧ Aside0 (kq ≤ kj37) ∧ Aside0 (Kd.R (Kd.int .i64) 3 wc w.heap.size (fun k_ => some k_ ≠ ((.slice Ao14 t224.length co14) : Value).ownBlock ∧ some k_ ≠ ((.slice Ao19 t232.length co19) : Value).ownBlock ∧ some k_ ≠ ((.slice Ao22 t235.length co22) : Value).ownBlock ∧ some k_ ≠ ((.slice Ao75 t255.length co75) : Value).ownBlock ∧ some k_ ≠ ((.slice Ao79 t258.length co79) : Value).ownBlock) (.slice Ao12 t221.length co12) t221) ∧ Aside0 (Kd.R (Kd.int .i64) 3 wc w.heap.size (fun k_ => some k_ ≠ ((.slice Ao12 t221.length co12) : Value).ownBlock ∧ some k_ ≠ ((.slice Ao19 t232.length co19) : Value).ownBlock ∧ some k_ ≠ ((.slice Ao22 t235.length co22) : Value).ownBlock ∧ some k_ ≠ ((.slice Ao75 t255.length co75) : Value).ownBlock ∧ some k_ ≠ ((.slice Ao79 t258.length co79) : Value).ownBlock) (.slice Ao14 t224.length co14) t224) ∧ Aside0 (Kd.R (Kd.int .i64) 3 wc w.heap.size (fun k_ => some k_ ≠ ((.slice Ao12 t221.length co12) : Value).ownBlock ∧ some k_ ≠ ((.slice Ao14 t224.length co14) : Value).ownBlock ∧ some k_ ≠ ((.slice Ao22 t235.length co22) : Value).ownBlock ∧ some k_ ≠ ((.slice Ao75 t255.length co75) : Value).ownBlock ∧ some k_ ≠ ((.slice Ao79 t258.length co79) : Value).ownBlock) (.slice Ao19 t232.length co19) t249) ∧ Aside0 (Kd.R (Kd.int .i64) 3 wc w.heap.size (fun k_ => some k_ ≠ ((.slice Ao12 t221.length co12) : Value).ownBlock ∧ some k_ ≠ ((.slice Ao14 t224.length co14) : Value).ownBlock ∧ some k_ ≠ ((.slice Ao19 t232.length co19) : Value).ownBlock ∧ some k_ ≠ ((.slice Ao75 t255.length co75) : Value).ownBlock ∧ some k_ ≠ ((.slice Ao79 t258.length co79) : Value).ownBlock) (.slice Ao22 t235.length co22) t250) ∧ Aside0 (Kd.R (Kd.int .i64) 3 wc w.heap.size (fun k_ => some k_ ≠ ((.slice Ao12 t221.length co12) : Value).ownBlock ∧ some k_ ≠ ((.slice Ao14 t224.length co14) : Value).ownBlock ∧ some k_ ≠ ((.slice Ao19 t232.length co19) : Value).ownBlock ∧ some k_ ≠ ((.slice Ao22 t235.length co22) : Value).ownBlock ∧ some k_ ≠ ((.slice Ao79 t258.length co79) : Value).ownBlock) (.slice Ao75 t255.length co75) t255) ∧ Aside0 (Kd.R (Kd.int .i64) 3 wc w.heap.size (fun k_ => some k_ ≠ ((.slice Ao12 t221.length co12) : Value).ownBlock ∧ some k_ ≠ ((.slice Ao14 t224.length co14) : Value).ownBlock ∧ some k_ ≠ ((.slice Ao19 t232.length co19) : Value).ownBlock ∧ some k_ ≠ ((.slice Ao22 t235.length co22) : Value).ownBlock ∧ some k_ ≠ ((.slice Ao75 t255.length co75) : Value).ownBlock) (.slice Ao79 t258.length co79) t258) ∧ Aside0 (wc.heap[gb228]? = some (.cells #[(.slice Ao12 t221.length co12), (.slice Ao14 t224.length co14)] 34 (0, 0))) ∧ Aside0 (wc.heap[gb239]? = some (.cells #[(.slice Ao19 t232.length co19), (.slice Ao22 t235.length co22)] 34 (0, 0))) ∧ Aside0 (wc.heap[gb262]? = some (.cells #[(.slice Ao75 t255.length co75), (.slice Ao79 t258.length co79)] 34 (0, 0))) ∧ Aside0 (Below w.heap.size w wc))
                      case first =>
                        have H := HC65.out
                        clear HC65
                        replace H := Option.bind_eq_some_iff.mp H
                        obtain ⟨t263, A800, H⟩ := H
                        replace H : (if t263 = true then (laws_FnExactPairOfSteps.j2 kj37 t248 (t261 != t227) t249 t250) else (laws_FnExactPairOfSteps.j2 kj37 t248 true t249 t250)) = some r := H
                        have A80 := Aside0.mk A800
                        clear A800
                        by_cases c81 : t263 = true
                        · subst c81
                          have H1 : (laws_FnExactPairOfSteps.j2 kj37 t248 (t261 != t227) t249 t250) = some r := by rw [if_pos rfl] at H; exact H
                          clear H
                          have H := H1
                          clear H1
                          have H' := Aside0.mk H
                          clear H
                          have hnb82 := NB262_228.out
                          have hnc82 := NB228_262.out
                          have hnb83 := NB262_239.out
                          have hnc83 := NB239_262.out
                          have hcz84_0 : w74.cell? ⟨gb262, 0, none⟩ = some (.slice none 0 0) := (blk_cell BK262.out 0).trans rfl
                          have hcz84_1 : w74.cell? ⟨gb262, 1, none⟩ = some (.slice none 0 0) := (blk_cell BK262.out 1).trans rfl
                          have hfz84_0 := blk_frozen BK262.out 0
                          have hfz84_1 := blk_frozen BK262.out 1
                          have hnb85 := NB228_239.out
                          have hnc85 := NB239_228.out
                          have hcz86_0 : w74.cell? ⟨gb228, 0, none⟩ = some (.slice Ao12 t221.length co12) := (blk_cell BK228.out 0).trans rfl
                          have hcz86_1 : w74.cell? ⟨gb228, 1, none⟩ = some (.slice Ao14 t224.length co14) := (blk_cell BK228.out 1).trans rfl
                          have hfz86_0 := blk_frozen BK228.out 0
                          have hfz86_1 := blk_frozen BK228.out 1
                          go_wp2_with (first | ((with_reducible refine gate_callee (f := 25) rfl ?_); refine goesL_ (some 78) rfl rfl Try.func25 (by kernel_rfl) rfl #[.agg #[.slice Ao75 t255.length co75, .slice Ao79 t258.length co79], .agg #[.slice Ao12 t221.length co12, .slice Ao14 t224.length co14]] rfl (by (try simp only [List.map_toArray, List.map_cons, List.map_nil]); first | done | rfl | (simp only [List.length_drop, List.length_take]; rfl)) ?_; (with_reducible refine (laws_eqMeander.calls kj37 _ _ t255 _ _ t258 _ _ t221 _ _ t224 true _ ?side1 ?side2 ?side3 ?side4 ?side5 ?side6 ?side7 ?side8 A80.out).mono ?_); (case side1 => refine (Kd.R_reads' (e := 3) (base := w.heap.size) (ok := fun k_ => (((((some k_ ≠ (.slice Ao79 t258.length co79 : Value).ownBlock ∧ some k_ ≠ (.slice Ao12 t221.length co12 : Value).ownBlock) ∧ some k_ ≠ (.slice Ao14 t224.length co14 : Value).ownBlock) ∧ some k_ ≠ (.slice Ao19 t232.length co19 : Value).ownBlock) ∧ some k_ ≠ (.slice Ao22 t235.length co22 : Value).ownBlock) ∧ some k_ ≠ (.slice Ao72 t252.length co72 : Value).ownBlock)) (n := t255.length) (c := co75) ?_).2.2; exact (by (with_reducible repeat (first | apply Kd.R_alloc | apply Kd.R_drewN | apply Kd.R_drew)); exact (Kd.R_mono (Kd.R_far (p := ⟨gb262, 1, none⟩) (Kd.R_far (p := ⟨gb262, 0, none⟩) (Kd.R_types HO257.out BK262.out (by decide)) (fun _ hk => hk.2) (.slice Ao75 t255.length co75)) (fun _ hk => hk.2) (.slice Ao79 t258.length co79)) (fun _ h_ => h_.1)))); (case side2 => exact (Kd.R_reads' HO257.out).2.1); (case side3 => refine (Kd.R_reads' (e := 3) (base := w.heap.size) (ok := fun k_ => (((((some k_ ≠ (.slice Ao75 t255.length co75 : Value).ownBlock ∧ some k_ ≠ (.slice Ao12 t221.length co12 : Value).ownBlock) ∧ some k_ ≠ (.slice Ao14 t224.length co14 : Value).ownBlock) ∧ some k_ ≠ (.slice Ao19 t232.length co19 : Value).ownBlock) ∧ some k_ ≠ (.slice Ao22 t235.length co22 : Value).ownBlock) ∧ some k_ ≠ (.slice Ao72 t252.length co72 : Value).ownBlock)) (n := t258.length) (c := co79) ?_).2.2; exact (by (with_reducible repeat (first | apply Kd.R_alloc | apply Kd.R_drewN | apply Kd.R_drew)); exact (Kd.R_mono (Kd.R_far (p := ⟨gb262, 1, none⟩) (Kd.R_far (p := ⟨gb262, 0, none⟩) (Kd.R_types HO260.out BK262.out (by decide)) (fun _ hk => hk.2) (.slice Ao75 t255.length co75)) (fun _ hk => hk.2) (.slice Ao79 t258.length co79)) (fun _ h_ => h_.1)))); (case side4 => exact (Kd.R_reads' HO260.out).2.1); (case side5 => refine (Kd.R_reads' (e := 3) (base := w.heap.size) (ok := fun k_ => ((((some k_ ≠ (.slice Ao14 t224.length co14 : Value).ownBlock ∧ (some k_ ≠ (.slice Ao19 t232.length co19 : Value).ownBlock ∧ some k_ ≠ (.slice Ao22 t235.length co22 : Value).ownBlock)) ∧ some k_ ≠ (.slice Ao72 t252.length co72 : Value).ownBlock) ∧ some k_ ≠ (.slice Ao75 t255.length co75 : Value).ownBlock) ∧ some k_ ≠ (.slice Ao79 t258.length co79 : Value).ownBlock)) (n := t221.length) (c := co12) ?_).2.2; exact (by (with_reducible repeat (first | apply Kd.R_alloc | apply Kd.R_drewN | apply Kd.R_drew)); exact (Kd.R_mono (Kd.R_far (p := ⟨gb262, 1, none⟩) (Kd.R_far (p := ⟨gb262, 0, none⟩) (Kd.R_types HO_229000.out BK262.out (by decide)) (fun _ hk => hk.2) (.slice Ao75 t255.length co75)) (fun _ hk => hk.2) (.slice Ao79 t258.length co79)) (fun _ h_ => h_.1)))); (case side6 => exact (Kd.R_reads' HO_229000.out).2.1); (case side7 => refine (Kd.R_reads' (e := 3) (base := w.heap.size) (ok := fun k_ => ((((some k_ ≠ (.slice Ao12 t221.length co12 : Value).ownBlock ∧ (some k_ ≠ (.slice Ao19 t232.length co19 : Value).ownBlock ∧ some k_ ≠ (.slice Ao22 t235.length co22 : Value).ownBlock)) ∧ some k_ ≠ (.slice Ao72 t252.length co72 : Value).ownBlock) ∧ some k_ ≠ (.slice Ao75 t255.length co75 : Value).ownBlock) ∧ some k_ ≠ (.slice Ao79 t258.length co79 : Value).ownBlock)) (n := t224.length) (c := co14) ?_).2.2; exact (by (with_reducible repeat (first | apply Kd.R_alloc | apply Kd.R_drewN | apply Kd.R_drew)); exact (Kd.R_mono (Kd.R_far (p := ⟨gb262, 1, none⟩) (Kd.R_far (p := ⟨gb262, 0, none⟩) (Kd.R_types HO_229001.out BK262.out (by decide)) (fun _ hk => hk.2) (.slice Ao75 t255.length co75)) (fun _ hk => hk.2) (.slice Ao79 t258.length co79)) (fun _ h_ => h_.1)))); (case side8 => exact (Kd.R_reads' HO_229001.out).2.1); rintro e w87 ⟨rfl, hb⟩; refine ⟨_, rfl, ?_⟩; have n0_ := Aside0.mk (Kd.R_below (by (with_reducible repeat (first | apply Kd.R_alloc | apply Kd.R_drewN | apply Kd.R_drew)); exact (Kd.R_mono (Kd.R_far (p := ⟨gb262, 1, none⟩) (Kd.R_far (p := ⟨gb262, 0, none⟩) (Kd.R_types HO_229000.out BK262.out (by decide)) (fun _ hk => hk.2) (.slice Ao75 t255.length co75)) (fun _ hk => hk.2) (.slice Ao79 t258.length co79)) (fun _ h_ => h_.1))) hb); have n1_ := Aside0.mk (Kd.R_below (by (with_reducible repeat (first | apply Kd.R_alloc | apply Kd.R_drewN | apply Kd.R_drew)); exact (Kd.R_mono (Kd.R_far (p := ⟨gb262, 1, none⟩) (Kd.R_far (p := ⟨gb262, 0, none⟩) (Kd.R_types HO_229001.out BK262.out (by decide)) (fun _ hk => hk.2) (.slice Ao75 t255.length co75)) (fun _ hk => hk.2) (.slice Ao79 t258.length co79)) (fun _ h_ => h_.1))) hb); have n2_ := Aside0.mk (Kd.R_below (by (with_reducible repeat (first | apply Kd.R_alloc | apply Kd.R_drewN | apply Kd.R_drew)); exact (Kd.R_mono (Kd.R_far (p := ⟨gb262, 1, none⟩) (Kd.R_far (p := ⟨gb262, 0, none⟩) (Kd.R_types HO_240000.out BK262.out (by decide)) (fun _ hk => hk.2) (.slice Ao75 t255.length co75)) (fun _ hk => hk.2) (.slice Ao79 t258.length co79)) (fun _ h_ => h_.1))) hb); have n3_ := Aside0.mk (Kd.R_below (by (with_reducible repeat (first | apply Kd.R_alloc | apply Kd.R_drewN | apply Kd.R_drew)); exact (Kd.R_mono (Kd.R_far (p := ⟨gb262, 1, none⟩) (Kd.R_far (p := ⟨gb262, 0, none⟩) (Kd.R_types HO_240001.out BK262.out (by decide)) (fun _ hk => hk.2) (.slice Ao75 t255.length co75)) (fun _ hk => hk.2) (.slice Ao79 t258.length co79)) (fun _ h_ => h_.1))) hb); have n4_ := Aside0.mk (Kd.R_below (by (with_reducible repeat (first | apply Kd.R_alloc | apply Kd.R_drewN | apply Kd.R_drew)); exact (Kd.R_mono (Kd.R_far (p := ⟨gb262, 1, none⟩) (Kd.R_far (p := ⟨gb262, 0, none⟩) (Kd.R_types HO254.out BK262.out (by decide)) (fun _ hk => hk.2) (.slice Ao75 t255.length co75)) (fun _ hk => hk.2) (.slice Ao79 t258.length co79)) (fun _ h_ => h_.1))) hb); have n5_ := Aside0.mk (Kd.R_below (by (with_reducible repeat (first | apply Kd.R_alloc | apply Kd.R_drewN | apply Kd.R_drew)); exact (Kd.R_mono (Kd.R_far (p := ⟨gb262, 1, none⟩) (Kd.R_far (p := ⟨gb262, 0, none⟩) (Kd.R_types HO257.out BK262.out (by decide)) (fun _ hk => hk.2) (.slice Ao75 t255.length co75)) (fun _ hk => hk.2) (.slice Ao79 t258.length co79)) (fun _ h_ => h_.1))) hb); have n6_ := Aside0.mk (Kd.R_below (by (with_reducible repeat (first | apply Kd.R_alloc | apply Kd.R_drewN | apply Kd.R_drew)); exact (Kd.R_mono (Kd.R_far (p := ⟨gb262, 1, none⟩) (Kd.R_far (p := ⟨gb262, 0, none⟩) (Kd.R_types HO260.out BK262.out (by decide)) (fun _ hk => hk.2) (.slice Ao75 t255.length co75)) (fun _ hk => hk.2) (.slice Ao79 t258.length co79)) (fun _ h_ => h_.1))) hb); have n7_ := Aside0.mk (blk_below (g := gb228) (o := .cells #[.slice Ao12 t221.length co12, .slice Ao14 t224.length co14] 34 (0, 0)) (by (with_reducible repeat (first | refine blk_drewN ?_ _ | refine blk_drew ?_ | refine blk_alloc ?_ _)); refine blk_far ?_ NB228_262.out _; (with_reducible repeat (first | refine blk_drewN ?_ _ | refine blk_drew ?_ | refine blk_alloc ?_ _)); refine blk_far ?_ NB228_262.out _; (with_reducible repeat (first | refine blk_drewN ?_ _ | refine blk_drew ?_ | refine blk_alloc ?_ _)); exact BK228.out) hb); have n8_ := Aside0.mk (blk_below (g := gb239) (o := .cells #[.slice Ao19 t232.length co19, .slice Ao22 t235.length co22] 34 (0, 0)) (by (with_reducible repeat (first | refine blk_drewN ?_ _ | refine blk_drew ?_ | refine blk_alloc ?_ _)); refine blk_far ?_ NB239_262.out _; (with_reducible repeat (first | refine blk_drewN ?_ _ | refine blk_drew ?_ | refine blk_alloc ?_ _)); refine blk_far ?_ NB239_262.out _; (with_reducible repeat (first | refine blk_drewN ?_ _ | refine blk_drew ?_ | refine blk_alloc ?_ _)); exact BK239.out) hb); have n9_ := Aside0.mk (blk_below (g := gb262) (o := .cells #[.slice Ao75 t255.length co75, .slice Ao79 t258.length co79] 34 (0, 0)) (by (with_reducible repeat (first | refine blk_drewN ?_ _ | refine blk_drew ?_ | refine blk_alloc ?_ _)); refine blk_put (cs := #[.slice Ao75 t255.length co75, .slice none 0 0]) ?_ 1 _ rfl; (with_reducible repeat (first | refine blk_drewN ?_ _ | refine blk_drew ?_ | refine blk_alloc ?_ _)); refine blk_put (cs := #[.slice none 0 0, .slice none 0 0]) ?_ 0 _ rfl; (with_reducible repeat (first | refine blk_drewN ?_ _ | refine blk_drew ?_ | refine blk_alloc ?_ _)); exact BK262.out) hb); have n10_ := Aside0.mk (below_step (by repeat (first | (with_reducible first | exact HB.out | apply below_alloc | apply pw_below_drewN | apply below_drew1 | refine below_set ?_ GE228.out | refine below_set ?_ GE239.out | refine below_set ?_ GE262.out) | exact HB.out)) hb); clear HO_229000; clear HO_229001; clear HO_240000; clear HO_240001; clear HO254; clear HO257; clear HO260; clear BK228; clear BK239; clear BK262; clear HB; have HO_229000 := n0_; have HO_229001 := n1_; have HO_240000 := n2_; have HO_240001 := n3_; have HO254 := n4_; have HO257 := n5_; have HO260 := n6_; have BK228 := n7_; have BK239 := n8_; have BK262 := n9_; have HB := n10_; clear n0_ n1_ n2_ n3_ n4_ n5_ n6_ n7_ n8_ n9_ n10_; (try clear hb); (try clear hb2); (try clear hk); (try clear hi)))
                          go_meet
                          case rel => exact ⟨_, ((t261 != t227)), (by first | rfl | (simp; done) | (simp [*]; done)), H', ⟨by have := HJ6.out; have := HJ37.out; first | omega | exact Nat.le_refl _⟩, ⟨by (with_reducible repeat (first | apply Kd.R_alloc | apply Kd.R_drewN | apply Kd.R_drew)); exact Kd.R_mono HO_229000.out (fun _ hk => ⟨hk.1.1.1.1, ⟨hk.1.1.1.2.1, ⟨hk.1.1.1.2.2, ⟨hk.1.2, hk.2⟩⟩⟩⟩)⟩, ⟨by (with_reducible repeat (first | apply Kd.R_alloc | apply Kd.R_drewN | apply Kd.R_drew)); exact Kd.R_mono HO_229001.out (fun _ hk => ⟨hk.1.1.1.1, ⟨hk.1.1.1.2.1, ⟨hk.1.1.1.2.2, ⟨hk.1.2, hk.2⟩⟩⟩⟩)⟩, ⟨by (with_reducible repeat (first | apply Kd.R_alloc | apply Kd.R_drewN | apply Kd.R_drew)); exact Kd.R_mono HO_240000.out (fun _ hk => ⟨hk.1.1.1.1, ⟨hk.1.1.1.2.1, ⟨hk.1.1.1.2.2, ⟨hk.1.2, hk.2⟩⟩⟩⟩)⟩, ⟨by (with_reducible repeat (first | apply Kd.R_alloc | apply Kd.R_drewN | apply Kd.R_drew)); exact Kd.R_mono HO_240001.out (fun _ hk => ⟨hk.1.1.1.1, ⟨hk.1.1.1.2.1, ⟨hk.1.1.1.2.2, ⟨hk.1.2, hk.2⟩⟩⟩⟩)⟩, ⟨by (with_reducible repeat (first | apply Kd.R_alloc | apply Kd.R_drewN | apply Kd.R_drew)); exact Kd.R_mono HO257.out (fun _ hk => ⟨hk.1.1.1.1.2, ⟨hk.1.1.1.2, ⟨hk.1.1.2, ⟨hk.1.2, hk.1.1.1.1.1⟩⟩⟩⟩)⟩, ⟨by (with_reducible repeat (first | apply Kd.R_alloc | apply Kd.R_drewN | apply Kd.R_drew)); exact Kd.R_mono HO260.out (fun _ hk => ⟨hk.1.1.1.1.2, ⟨hk.1.1.1.2, ⟨hk.1.1.2, ⟨hk.1.2, hk.1.1.1.1.1⟩⟩⟩⟩)⟩, ⟨by (with_reducible repeat (first | refine blk_drewN ?_ _ | refine blk_drew ?_ | refine blk_alloc ?_ _)); exact BK228.out⟩, ⟨by (with_reducible repeat (first | refine blk_drewN ?_ _ | refine blk_drew ?_ | refine blk_alloc ?_ _)); exact BK239.out⟩, ⟨by (with_reducible repeat (first | refine blk_drewN ?_ _ | refine blk_drew ?_ | refine blk_alloc ?_ _)); exact BK262.out⟩, ⟨by repeat (first | (with_reducible first | exact HB.out | apply below_alloc | apply pw_below_drewN | apply below_drew1 | refine below_set ?_ GE228.out | refine below_set ?_ GE239.out | refine below_set ?_ GE262.out) | exact HB.out)⟩⟩
                        · replace c81 := Bool.eq_false_iff.mpr c81
                          subst c81
                          have H1 : (laws_FnExactPairOfSteps.j2 kj37 t248 true t249 t250) = some r := by rw [if_neg (show ¬ (false = true) by decide)] at H; exact H
                          rw [hr_] at H1; exact absurd H1 (laws_FnExactPairOfSteps.j2_no _ _ _ _)
                      case rest =>
                        clear HC65
                        try clear c2
                        try clear c2b0
                        try clear c2b1
                        try clear p2
                        try clear c3
                        try clear c4
                        try clear c5
                        try clear c6
                        try clear c7
                        try clear c8
                        try clear c9
                        try clear c20
                        try clear c22
                        try clear c23
                        try clear c24
                        try clear c25
                        try clear c26
                        try clear c27
                        try clear c28
                        try clear c29
                        try clear c33
                        try clear c36
                        try clear c42
                        try clear c42b0
                        try clear c44
                        try clear c45
                        try clear c49
                        try clear c53
                        try clear c56
                        try clear c56b0
                        try clear c57
                        try clear c62
                        try clear c62b0
                        try clear c62b1
                        try clear c66
                        try clear c76
                        try clear c77
                        try clear c81
                        try clear c82
                        try clear c83
                        try clear c85
                        try clear c88
                        try clear c89
                        try clear c91
                        try clear hcz13_0
                        try clear hcz13_1
                        try clear hcz21_0
                        try clear hcz21_1
                        try clear hcz26_0
                        try clear hcz26_1
                        try clear hcz27_0
                        try clear hcz27_1
                        try clear hcz30_0
                        try clear hcz30_1
                        try clear hcz31_0
                        try clear hcz31_1
                        try clear hcz46_0
                        try clear hcz46_1
                        try clear hcz47_0
                        try clear hcz47_1
                        try clear hcz50_0
                        try clear hcz50_1
                        try clear hcz51_0
                        try clear hcz51_1
                        try clear hcz58_0
                        try clear hcz58_1
                        try clear hcz60_0
                        try clear hcz60_1
                        try clear hcz67_0
                        try clear hcz67_1
                        try clear hcz69_0
                        try clear hcz69_1
                        try clear hcz78_0
                        try clear hcz78_1
                        try clear hcz84_0
                        try clear hcz84_1
                        try clear hcz86_0
                        try clear hcz86_1
                        try clear hcz90_0
                        try clear hcz90_1
                        try clear hcz92_0
                        try clear hcz92_1
                        try clear hfz13_0
                        try clear hfz13_1
                        try clear hfz21_0
                        try clear hfz21_1
                        try clear hfz26_0
                        try clear hfz26_1
                        try clear hfz27_0
                        try clear hfz27_1
                        try clear hfz30_0
                        try clear hfz30_1
                        try clear hfz31_0
                        try clear hfz31_1
                        try clear hfz46_0
                        try clear hfz46_1
                        try clear hfz47_0
                        try clear hfz47_1
                        try clear hfz50_0
                        try clear hfz50_1
                        try clear hfz51_0
                        try clear hfz51_1
                        try clear hfz58_0
                        try clear hfz58_1
                        try clear hfz60_0
                        try clear hfz60_1
                        try clear hfz67_0
                        try clear hfz67_1
                        try clear hfz69_0
                        try clear hfz69_1
                        try clear hfz78_0
                        try clear hfz78_1
                        try clear hfz84_0
                        try clear hfz84_1
                        try clear hfz86_0
                        try clear hfz86_1
                        try clear hfz90_0
                        try clear hfz90_1
                        try clear hfz92_0
                        try clear hfz92_1
                        try clear p2
                        obtain ⟨kq, x84_64, rfl, HA, HJ64, HO_229000, HO_229001, HO_240000, HO_240001, HO_263000, HO_263001, BK228, BK239, BK262, HB⟩ := hcut
                        have hl240000_64 := (Kd.R_reads' HO_240000.out).1
                        rw [hl240000_64] at HO_240000
                        (try simp only [hl240000_64])
                        (try simp only [hl240000_64] at BK228)
                        (try simp only [hl240000_64] at BK239)
                        (try simp only [hl240000_64] at BK262)
                        (try simp only [hl240000_64] at HO_229000)
                        (try simp only [hl240000_64] at HO_229001)
                        (try simp only [hl240000_64] at HO_240001)
                        (try simp only [hl240000_64] at HO_263000)
                        (try simp only [hl240000_64] at HO_263001)
                        have hl240001_64 := (Kd.R_reads' HO_240001.out).1
                        rw [hl240001_64] at HO_240001
                        (try simp only [hl240001_64])
                        (try simp only [hl240001_64] at BK228)
                        (try simp only [hl240001_64] at BK239)
                        (try simp only [hl240001_64] at BK262)
                        (try simp only [hl240001_64] at HO_229000)
                        (try simp only [hl240001_64] at HO_229001)
                        (try simp only [hl240001_64] at HO_240000)
                        (try simp only [hl240001_64] at HO_263000)
                        (try simp only [hl240001_64] at HO_263001)
                        cases kq with
                        | zero => exact absurd HA.out (by simp [laws_FnExactPairOfSteps.j2])
                        | succ kj64 =>
                          have H := HA.out
                          clear HA
                          simp only [laws_FnExactPairOfSteps.j2] at H
                          by_cases c94 : x84_64 = true
                          · subst c94
                            have H1 : (some false) = some r := by rw [if_pos rfl] at H; exact H
                            rw [hr_] at H1; exact absurd H1 (by decide)
                          · replace c94 := Bool.eq_false_iff.mpr c94
                            subst c94
                            have H1 : ((laws_heldMeander.f kj64 t249 t250 1).bind fun t264 => (if t264 < 0 then (some false) else (if t264 = t248 then (some true) else (some false)))) = some r := by rw [if_neg (show ¬ (false = true) by decide)] at H; exact H
                            clear H
                            have H := H1
                            clear H1
                            replace H := Option.bind_eq_some_iff.mp H
                            obtain ⟨t264, A950, H⟩ := H
                            replace H : (if t264 < 0 then (some false) else (if t264 = t248 then (some true) else (some false))) = some r := H
                            have A95 := Aside0.mk A950
                            clear A950
                            by_cases c96 : t264 < 0
                            · rw [if_pos c96] at H
                              have c96b0 : decide (t264 < 0) = true := decide_eq_true c96
                              clear c96
                              obtain rfl := Option.some.inj H
                              have hnb97 := NB239_228.out
                              have hnc97 := NB228_239.out
                              have hnb98 := NB239_262.out
                              have hnc98 := NB262_239.out
                              have hcz99_0 : wc.cell? ⟨gb239, 0, none⟩ = some (.slice Ao19 t249.length co19) := (blk_cell BK239.out 0).trans rfl
                              have hcz99_1 : wc.cell? ⟨gb239, 1, none⟩ = some (.slice Ao22 t250.length co22) := (blk_cell BK239.out 1).trans rfl
                              have hfz99_0 := blk_frozen BK239.out 0
                              have hfz99_1 := blk_frozen BK239.out 1
                              go_wp2_with (first | ((with_reducible refine gate_callee (f := 29) rfl ?_); refine goesL_ (some 87) rfl rfl Try.func29 (by kernel_rfl) rfl #[.agg #[.slice Ao19 t249.length co19, .slice Ao22 t250.length co22], .int .i64 1] rfl (by (try simp only [List.map_toArray, List.map_cons, List.map_nil]); first | done | rfl | (simp only [List.length_drop, List.length_take]; rfl)) ?_; (with_reducible refine (laws_heldMeander.calls kj64 _ _ t249 _ _ t250 1 t264 _ ?side1 ?side2 ?side3 ?side4 A95.out).mono ?_); (case side1 => repeat (first | exact (Kd.R_reads' HO_240000.out).2.2 | (with_reducible refine Kd.C_alloc ?_ _) | (with_reducible refine Kd.C_drewN ?_ _) | (with_reducible refine Kd.C_drew ?_))); (case side2 => exact (Kd.R_reads' HO_240000.out).2.1); (case side3 => repeat (first | exact (Kd.R_reads' HO_240001.out).2.2 | (with_reducible refine Kd.C_alloc ?_ _) | (with_reducible refine Kd.C_drewN ?_ _) | (with_reducible refine Kd.C_drew ?_))); (case side4 => exact (Kd.R_reads' HO_240001.out).2.1); rintro e w100 ⟨rfl, hb⟩; refine ⟨_, rfl, ?_⟩; have n0_ := Aside0.mk (Kd.R_below (by (with_reducible repeat (first | apply Kd.R_alloc | apply Kd.R_drewN | apply Kd.R_drew)); exact HO_229000.out) hb); have n1_ := Aside0.mk (Kd.R_below (by (with_reducible repeat (first | apply Kd.R_alloc | apply Kd.R_drewN | apply Kd.R_drew)); exact HO_229001.out) hb); have n2_ := Aside0.mk (Kd.R_below (by (with_reducible repeat (first | apply Kd.R_alloc | apply Kd.R_drewN | apply Kd.R_drew)); exact HO_240000.out) hb); have n3_ := Aside0.mk (Kd.R_below (by (with_reducible repeat (first | apply Kd.R_alloc | apply Kd.R_drewN | apply Kd.R_drew)); exact HO_240001.out) hb); have n4_ := Aside0.mk (Kd.R_below (by (with_reducible repeat (first | apply Kd.R_alloc | apply Kd.R_drewN | apply Kd.R_drew)); exact HO_263000.out) hb); have n5_ := Aside0.mk (Kd.R_below (by (with_reducible repeat (first | apply Kd.R_alloc | apply Kd.R_drewN | apply Kd.R_drew)); exact HO_263001.out) hb); have n6_ := Aside0.mk (blk_below (g := gb228) (o := .cells #[.slice Ao12 t221.length co12, .slice Ao14 t224.length co14] 34 (0, 0)) (by (with_reducible repeat (first | refine blk_drewN ?_ _ | refine blk_drew ?_ | refine blk_alloc ?_ _)); exact BK228.out) hb); have n7_ := Aside0.mk (blk_below (g := gb239) (o := .cells #[.slice Ao19 t249.length co19, .slice Ao22 t250.length co22] 34 (0, 0)) (by (with_reducible repeat (first | refine blk_drewN ?_ _ | refine blk_drew ?_ | refine blk_alloc ?_ _)); exact BK239.out) hb); have n8_ := Aside0.mk (blk_below (g := gb262) (o := .cells #[.slice Ao75 t255.length co75, .slice Ao79 t258.length co79] 34 (0, 0)) (by (with_reducible repeat (first | refine blk_drewN ?_ _ | refine blk_drew ?_ | refine blk_alloc ?_ _)); exact BK262.out) hb); have n9_ := Aside0.mk (below_step (by repeat (first | (with_reducible first | exact HB.out | apply below_alloc | apply pw_below_drewN | apply below_drew1 | refine below_set ?_ GE228.out | refine below_set ?_ GE239.out | refine below_set ?_ GE262.out) | exact HB.out)) hb); clear HO_229000; clear HO_229001; clear HO_240000; clear HO_240001; clear HO_263000; clear HO_263001; clear BK228; clear BK239; clear BK262; clear HB; have HO_229000 := n0_; have HO_229001 := n1_; have HO_240000 := n2_; have HO_240001 := n3_; have HO_263000 := n4_; have HO_263001 := n5_; have BK228 := n6_; have BK239 := n7_; have BK262 := n8_; have HB := n9_; clear n0_ n1_ n2_ n3_ n4_ n5_ n6_ n7_ n8_ n9_; (try clear hb); (try clear hb2); (try clear hk); (try clear hi)))
                              go_ret
                              exact ⟨by first | rfl | (simp [errW_none, errW_some] <;> rfl) | (simp [*, errW_none, errW_some] <;> rfl), by repeat (first | (with_reducible first | exact HB.out | apply below_alloc | apply pw_below_drewN | apply below_drew1 | refine below_set ?_ GE228.out | refine below_set ?_ GE239.out | refine below_set ?_ GE262.out) | exact HB.out)⟩
                            · rw [if_neg c96] at H
                              have c96b0 : decide (t264 < 0) = false := decide_eq_false c96
                              clear c96
                              by_cases c101 : t264 = t248
                              · rw [if_pos c101] at H
                                have c101b0 : (t264 == t248) = true := beq_iff_eq.mpr c101
                                have c101b1 : (t264 != t248) = false := bne_eq_false_iff_eq.mpr c101
                                clear c101
                                obtain rfl := Option.some.inj H
                                have hnb102 := NB239_228.out
                                have hnc102 := NB228_239.out
                                have hnb103 := NB239_262.out
                                have hnc103 := NB262_239.out
                                have hcz104_0 : wc.cell? ⟨gb239, 0, none⟩ = some (.slice Ao19 t249.length co19) := (blk_cell BK239.out 0).trans rfl
                                have hcz104_1 : wc.cell? ⟨gb239, 1, none⟩ = some (.slice Ao22 t250.length co22) := (blk_cell BK239.out 1).trans rfl
                                have hfz104_0 := blk_frozen BK239.out 0
                                have hfz104_1 := blk_frozen BK239.out 1
                                go_wp2_with (first | ((with_reducible refine gate_callee (f := 29) rfl ?_); refine goesL_ (some 87) rfl rfl Try.func29 (by kernel_rfl) rfl #[.agg #[.slice Ao19 t249.length co19, .slice Ao22 t250.length co22], .int .i64 1] rfl (by (try simp only [List.map_toArray, List.map_cons, List.map_nil]); first | done | rfl | (simp only [List.length_drop, List.length_take]; rfl)) ?_; (with_reducible refine (laws_heldMeander.calls kj64 _ _ t249 _ _ t250 1 t264 _ ?side1 ?side2 ?side3 ?side4 A95.out).mono ?_); (case side1 => repeat (first | exact (Kd.R_reads' HO_240000.out).2.2 | (with_reducible refine Kd.C_alloc ?_ _) | (with_reducible refine Kd.C_drewN ?_ _) | (with_reducible refine Kd.C_drew ?_))); (case side2 => exact (Kd.R_reads' HO_240000.out).2.1); (case side3 => repeat (first | exact (Kd.R_reads' HO_240001.out).2.2 | (with_reducible refine Kd.C_alloc ?_ _) | (with_reducible refine Kd.C_drewN ?_ _) | (with_reducible refine Kd.C_drew ?_))); (case side4 => exact (Kd.R_reads' HO_240001.out).2.1); rintro e w105 ⟨rfl, hb⟩; refine ⟨_, rfl, ?_⟩; have n0_ := Aside0.mk (Kd.R_below (by (with_reducible repeat (first | apply Kd.R_alloc | apply Kd.R_drewN | apply Kd.R_drew)); exact HO_229000.out) hb); have n1_ := Aside0.mk (Kd.R_below (by (with_reducible repeat (first | apply Kd.R_alloc | apply Kd.R_drewN | apply Kd.R_drew)); exact HO_229001.out) hb); have n2_ := Aside0.mk (Kd.R_below (by (with_reducible repeat (first | apply Kd.R_alloc | apply Kd.R_drewN | apply Kd.R_drew)); exact HO_240000.out) hb); have n3_ := Aside0.mk (Kd.R_below (by (with_reducible repeat (first | apply Kd.R_alloc | apply Kd.R_drewN | apply Kd.R_drew)); exact HO_240001.out) hb); have n4_ := Aside0.mk (Kd.R_below (by (with_reducible repeat (first | apply Kd.R_alloc | apply Kd.R_drewN | apply Kd.R_drew)); exact HO_263000.out) hb); have n5_ := Aside0.mk (Kd.R_below (by (with_reducible repeat (first | apply Kd.R_alloc | apply Kd.R_drewN | apply Kd.R_drew)); exact HO_263001.out) hb); have n6_ := Aside0.mk (blk_below (g := gb228) (o := .cells #[.slice Ao12 t221.length co12, .slice Ao14 t224.length co14] 34 (0, 0)) (by (with_reducible repeat (first | refine blk_drewN ?_ _ | refine blk_drew ?_ | refine blk_alloc ?_ _)); exact BK228.out) hb); have n7_ := Aside0.mk (blk_below (g := gb239) (o := .cells #[.slice Ao19 t249.length co19, .slice Ao22 t250.length co22] 34 (0, 0)) (by (with_reducible repeat (first | refine blk_drewN ?_ _ | refine blk_drew ?_ | refine blk_alloc ?_ _)); exact BK239.out) hb); have n8_ := Aside0.mk (blk_below (g := gb262) (o := .cells #[.slice Ao75 t255.length co75, .slice Ao79 t258.length co79] 34 (0, 0)) (by (with_reducible repeat (first | refine blk_drewN ?_ _ | refine blk_drew ?_ | refine blk_alloc ?_ _)); exact BK262.out) hb); have n9_ := Aside0.mk (below_step (by repeat (first | (with_reducible first | exact HB.out | apply below_alloc | apply pw_below_drewN | apply below_drew1 | refine below_set ?_ GE228.out | refine below_set ?_ GE239.out | refine below_set ?_ GE262.out) | exact HB.out)) hb); clear HO_229000; clear HO_229001; clear HO_240000; clear HO_240001; clear HO_263000; clear HO_263001; clear BK228; clear BK239; clear BK262; clear HB; have HO_229000 := n0_; have HO_229001 := n1_; have HO_240000 := n2_; have HO_240001 := n3_; have HO_263000 := n4_; have HO_263001 := n5_; have BK228 := n6_; have BK239 := n7_; have BK262 := n8_; have HB := n9_; clear n0_ n1_ n2_ n3_ n4_ n5_ n6_ n7_ n8_ n9_; (try clear hb); (try clear hb2); (try clear hk); (try clear hi)))
                                go_ret
                                exact ⟨by first | rfl | (simp [errW_none, errW_some] <;> rfl) | (simp [*, errW_none, errW_some] <;> rfl), by repeat (first | (with_reducible first | exact HB.out | apply below_alloc | apply pw_below_drewN | apply below_drew1 | refine below_set ?_ GE228.out | refine below_set ?_ GE239.out | refine below_set ?_ GE262.out) | exact HB.out)⟩
                              · rw [if_neg c101] at H
                                have c101b0 : (t264 == t248) = false := beq_eq_false_iff_ne.mpr c101
                                have c101b1 : (t264 != t248) = true := bne_iff_ne.mpr c101
                                obtain rfl := Option.some.inj H
                                have hnb106 := NB239_228.out
                                have hnc106 := NB228_239.out
                                have hnb107 := NB239_262.out
                                have hnc107 := NB262_239.out
                                have hcz108_0 : wc.cell? ⟨gb239, 0, none⟩ = some (.slice Ao19 t249.length co19) := (blk_cell BK239.out 0).trans rfl
                                have hcz108_1 : wc.cell? ⟨gb239, 1, none⟩ = some (.slice Ao22 t250.length co22) := (blk_cell BK239.out 1).trans rfl
                                have hfz108_0 := blk_frozen BK239.out 0
                                have hfz108_1 := blk_frozen BK239.out 1
                                go_wp2_with (first | ((with_reducible refine gate_callee (f := 29) rfl ?_); refine goesL_ (some 87) rfl rfl Try.func29 (by kernel_rfl) rfl #[.agg #[.slice Ao19 t249.length co19, .slice Ao22 t250.length co22], .int .i64 1] rfl (by (try simp only [List.map_toArray, List.map_cons, List.map_nil]); first | done | rfl | (simp only [List.length_drop, List.length_take]; rfl)) ?_; (with_reducible refine (laws_heldMeander.calls kj64 _ _ t249 _ _ t250 1 t264 _ ?side1 ?side2 ?side3 ?side4 A95.out).mono ?_); (case side1 => repeat (first | exact (Kd.R_reads' HO_240000.out).2.2 | (with_reducible refine Kd.C_alloc ?_ _) | (with_reducible refine Kd.C_drewN ?_ _) | (with_reducible refine Kd.C_drew ?_))); (case side2 => exact (Kd.R_reads' HO_240000.out).2.1); (case side3 => repeat (first | exact (Kd.R_reads' HO_240001.out).2.2 | (with_reducible refine Kd.C_alloc ?_ _) | (with_reducible refine Kd.C_drewN ?_ _) | (with_reducible refine Kd.C_drew ?_))); (case side4 => exact (Kd.R_reads' HO_240001.out).2.1); rintro e w109 ⟨rfl, hb⟩; refine ⟨_, rfl, ?_⟩; have n0_ := Aside0.mk (Kd.R_below (by (with_reducible repeat (first | apply Kd.R_alloc | apply Kd.R_drewN | apply Kd.R_drew)); exact HO_229000.out) hb); have n1_ := Aside0.mk (Kd.R_below (by (with_reducible repeat (first | apply Kd.R_alloc | apply Kd.R_drewN | apply Kd.R_drew)); exact HO_229001.out) hb); have n2_ := Aside0.mk (Kd.R_below (by (with_reducible repeat (first | apply Kd.R_alloc | apply Kd.R_drewN | apply Kd.R_drew)); exact HO_240000.out) hb); have n3_ := Aside0.mk (Kd.R_below (by (with_reducible repeat (first | apply Kd.R_alloc | apply Kd.R_drewN | apply Kd.R_drew)); exact HO_240001.out) hb); have n4_ := Aside0.mk (Kd.R_below (by (with_reducible repeat (first | apply Kd.R_alloc | apply Kd.R_drewN | apply Kd.R_drew)); exact HO_263000.out) hb); have n5_ := Aside0.mk (Kd.R_below (by (with_reducible repeat (first | apply Kd.R_alloc | apply Kd.R_drewN | apply Kd.R_drew)); exact HO_263001.out) hb); have n6_ := Aside0.mk (blk_below (g := gb228) (o := .cells #[.slice Ao12 t221.length co12, .slice Ao14 t224.length co14] 34 (0, 0)) (by (with_reducible repeat (first | refine blk_drewN ?_ _ | refine blk_drew ?_ | refine blk_alloc ?_ _)); exact BK228.out) hb); have n7_ := Aside0.mk (blk_below (g := gb239) (o := .cells #[.slice Ao19 t249.length co19, .slice Ao22 t250.length co22] 34 (0, 0)) (by (with_reducible repeat (first | refine blk_drewN ?_ _ | refine blk_drew ?_ | refine blk_alloc ?_ _)); exact BK239.out) hb); have n8_ := Aside0.mk (blk_below (g := gb262) (o := .cells #[.slice Ao75 t255.length co75, .slice Ao79 t258.length co79] 34 (0, 0)) (by (with_reducible repeat (first | refine blk_drewN ?_ _ | refine blk_drew ?_ | refine blk_alloc ?_ _)); exact BK262.out) hb); have n9_ := Aside0.mk (below_step (by repeat (first | (with_reducible first | exact HB.out | apply below_alloc | apply pw_below_drewN | apply below_drew1 | refine below_set ?_ GE228.out | refine below_set ?_ GE239.out | refine below_set ?_ GE262.out) | exact HB.out)) hb); clear HO_229000; clear HO_229001; clear HO_240000; clear HO_240001; clear HO_263000; clear HO_263001; clear BK228; clear BK239; clear BK262; clear HB; have HO_229000 := n0_; have HO_229001 := n1_; have HO_240000 := n2_; have HO_240001 := n3_; have HO_263000 := n4_; have HO_263001 := n5_; have BK228 := n6_; have BK239 := n7_; have BK262 := n8_; have HB := n9_; clear n0_ n1_ n2_ n3_ n4_ n5_ n6_ n7_ n8_ n9_; (try clear hb); (try clear hb2); (try clear hk); (try clear hi)))
                                go_ret
                                exact ⟨by first | rfl | (simp [errW_none, errW_some] <;> rfl) | (simp [*, errW_none, errW_some] <;> rfl), by repeat (first | (with_reducible first | exact HB.out | apply below_alloc | apply pw_below_drewN | apply below_drew1 | refine below_set ?_ GE228.out | refine below_set ?_ GE239.out | refine below_set ?_ GE262.out) | exact HB.out)⟩
                    · rw [if_neg c62] at H
                      have c62b0 : (t251 == t248) = false := beq_eq_false_iff_ne.mpr c62
                      have c62b1 : (t251 != t248) = true := bne_iff_ne.mpr c62
                      obtain rfl := Option.some.inj H
                      have hnb110 := NB239_228.out
                      have hnc110 := NB228_239.out
                      have hcz111_0 : wc.cell? ⟨gb239, 0, none⟩ = some (.slice Ao19 t232.length co19) := (blk_cell BK239.out 0).trans rfl
                      have hcz111_1 : wc.cell? ⟨gb239, 1, none⟩ = some (.slice Ao22 t235.length co22) := (blk_cell BK239.out 1).trans rfl
                      have hfz111_0 := blk_frozen BK239.out 0
                      have hfz111_1 := blk_frozen BK239.out 1
                      go_wp2_with (first | ((with_reducible refine gate_callee (f := 28) rfl ?_); refine goesL_ (some 61) rfl rfl Try.func28 (by kernel_rfl) rfl #[.agg #[.slice Ao19 t232.length co19, .slice Ao22 t235.length co22], .int .i64 1] rfl (by (try simp only [List.map_toArray, List.map_cons, List.map_nil]); first | done | rfl | (simp only [List.length_drop, List.length_take]; rfl)) ?_; (with_reducible refine (laws_markMeander.calls kj37 (fun k_ => some k_ = (.slice Ao19 t232.length co19 : Value).ownBlock) (.slice Ao19 t232.length co19) t232 (fun k_ => some k_ = (.slice Ao22 t235.length co22 : Value).ownBlock) (.slice Ao22 t235.length co22) t235 1 t248 t249 t250 w _ ?side1 ?side2 ?side3 ?side4 ?side5 A54.out).mono ?_); (case side1 => repeat (first | (with_reducible first | exact HB.out | apply below_alloc | apply pw_below_drewN | apply below_drew1 | refine below_set ?_ GE228.out | refine below_set ?_ GE239.out) | exact HB.out)); (case side2 => exact Kd.R_tight rfl HO_240000.out); (case side3 => exact fun k_ e_ => (HO_240000.out.1 k_ e_.symm).2.2); (case side4 => exact Kd.R_tight rfl HO_240001.out); (case side5 => exact fun k_ e_ => (HO_240001.out.1 k_ e_.symm).2.2); rintro e w112 ⟨rfl, hy0, hy1, hb, hkp⟩; refine ⟨_, rfl, ?_⟩; have n0_ := Aside0.mk (Kd.R_mono (ok' := fun k_ => some k_ ≠ (.slice Ao14 t224.length co14 : Value).ownBlock ∧ some k_ ≠ (.slice Ao19 t232.length co19 : Value).ownBlock ∧ some k_ ≠ (.slice Ao22 t235.length co22 : Value).ownBlock) (Kd.R_keptB (HO_229000.out) hkp (fun k_ hk_ hs_ => Or.elim hs_ (fun e_ => (hk_.2.1) e_) (fun e_ => (hk_.2.2) e_))) (fun k_ hk_ => ⟨hk_.1.1, hk_.1.2.1, hk_.1.2.2⟩)); have n1_ := Aside0.mk (Kd.R_mono (ok' := fun k_ => some k_ ≠ (.slice Ao12 t221.length co12 : Value).ownBlock ∧ some k_ ≠ (.slice Ao19 t232.length co19 : Value).ownBlock ∧ some k_ ≠ (.slice Ao22 t235.length co22 : Value).ownBlock) (Kd.R_keptB (HO_229001.out) hkp (fun k_ hk_ hs_ => Or.elim hs_ (fun e_ => (hk_.2.1) e_) (fun e_ => (hk_.2.2) e_))) (fun k_ hk_ => ⟨hk_.1.1, hk_.1.2.1, hk_.1.2.2⟩)); have n2_ := Aside0.mk (Kd.R_reok rfl hy0 (fun k_ e_ => HO_240000.out.1 k_ e_)); have n3_ := Aside0.mk (Kd.R_reok rfl hy1 (fun k_ e_ => HO_240001.out.1 k_ e_)); have n4_ := Aside0.mk (blk_kept (by (with_reducible repeat (first | refine blk_drewN ?_ _ | refine blk_drew ?_ | refine blk_alloc ?_ _)); exact BK228.out) hkp (fun hs_ => Or.elim hs_ (fun e_ => (fun e_ => (Kd.R_ne HO_240000.out BK228.out (by decide)) e_) e_) (fun e_ => (fun e_ => (Kd.R_ne HO_240001.out BK228.out (by decide)) e_) e_))); have n5_ := Aside0.mk (blk_kept (by (with_reducible repeat (first | refine blk_drewN ?_ _ | refine blk_drew ?_ | refine blk_alloc ?_ _)); exact BK239.out) hkp (fun hs_ => Or.elim hs_ (fun e_ => (fun e_ => (Kd.R_ne HO_240000.out BK239.out (by decide)) e_) e_) (fun e_ => (fun e_ => (Kd.R_ne HO_240001.out BK239.out (by decide)) e_) e_))); have n6_ := Aside0.mk (hb); clear HO_229000; clear HO_229001; clear HO_240000; clear HO_240001; clear BK228; clear BK239; clear HB; have HO_229000 := n0_; have HO_229001 := n1_; have HO_240000 := n2_; have HO_240001 := n3_; have BK228 := n4_; have BK239 := n5_; have HB := n6_; clear n0_ n1_ n2_ n3_ n4_ n5_ n6_; (try clear hb); (try clear hkp); (try clear hy0); (try clear hy1); have hcz113_0 : w112.cell? ⟨gb239, 0, none⟩ = some (.slice Ao19 t232.length co19) := (blk_cell BK239.out 0).trans rfl; have hcz113_1 : w112.cell? ⟨gb239, 1, none⟩ = some (.slice Ao22 t235.length co22) := (blk_cell BK239.out 1).trans rfl; have hfz113_0 := blk_frozen BK239.out 0; have hfz113_1 := blk_frozen BK239.out 1) | ((with_reducible refine gate_callee (f := 29) rfl ?_); refine goesL_ (some 64) rfl rfl Try.func29 (by kernel_rfl) rfl #[.agg #[.slice Ao19 t249.length co19, .slice Ao22 t250.length co22], .int .i64 1] rfl (by (try simp only [List.map_toArray, List.map_cons, List.map_nil]); first | done | (rw [show t249.length = t232.length from (Kd.R_reads' HO_240000.out).1.symm, show t250.length = t235.length from (Kd.R_reads' HO_240001.out).1.symm] <;> rfl) | rfl | (simp only [List.length_drop, List.length_take]; rfl)) ?_; (with_reducible refine (laws_heldMeander.calls kj37 _ _ t249 _ _ t250 1 t251 _ ?side1 ?side2 ?side3 ?side4 A55.out).mono ?_); (case side1 => repeat (first | exact (Kd.R_reads' HO_240000.out).2.2 | (with_reducible refine Kd.C_alloc ?_ _) | (with_reducible refine Kd.C_drewN ?_ _) | (with_reducible refine Kd.C_drew ?_))); (case side2 => rw [show t249.length = t232.length from (Kd.R_reads' HO_240000.out).1.symm]; exact (Kd.R_reads' HO_240000.out).2.1); (case side3 => repeat (first | exact (Kd.R_reads' HO_240001.out).2.2 | (with_reducible refine Kd.C_alloc ?_ _) | (with_reducible refine Kd.C_drewN ?_ _) | (with_reducible refine Kd.C_drew ?_))); (case side4 => rw [show t250.length = t235.length from (Kd.R_reads' HO_240001.out).1.symm]; exact (Kd.R_reads' HO_240001.out).2.1); rintro e w114 ⟨rfl, hb⟩; refine ⟨_, rfl, ?_⟩; have n0_ := Aside0.mk (Kd.R_below (by (with_reducible repeat (first | apply Kd.R_alloc | apply Kd.R_drewN | apply Kd.R_drew)); exact HO_229000.out) hb); have n1_ := Aside0.mk (Kd.R_below (by (with_reducible repeat (first | apply Kd.R_alloc | apply Kd.R_drewN | apply Kd.R_drew)); exact HO_229001.out) hb); have n2_ := Aside0.mk (Kd.R_below (by (with_reducible repeat (first | apply Kd.R_alloc | apply Kd.R_drewN | apply Kd.R_drew)); exact HO_240000.out) hb); have n3_ := Aside0.mk (Kd.R_below (by (with_reducible repeat (first | apply Kd.R_alloc | apply Kd.R_drewN | apply Kd.R_drew)); exact HO_240001.out) hb); have n4_ := Aside0.mk (blk_below (g := gb228) (o := .cells #[.slice Ao12 t221.length co12, .slice Ao14 t224.length co14] 34 (0, 0)) (by (with_reducible repeat (first | refine blk_drewN ?_ _ | refine blk_drew ?_ | refine blk_alloc ?_ _)); exact BK228.out) hb); have n5_ := Aside0.mk (blk_below (g := gb239) (o := .cells #[.slice Ao19 t232.length co19, .slice Ao22 t235.length co22] 34 (0, 0)) (by (with_reducible repeat (first | refine blk_drewN ?_ _ | refine blk_drew ?_ | refine blk_alloc ?_ _)); exact BK239.out) hb); have n6_ := Aside0.mk (below_step (by repeat (first | (with_reducible first | exact HB.out | apply below_alloc | apply pw_below_drewN | apply below_drew1 | refine below_set ?_ GE228.out | refine below_set ?_ GE239.out) | exact HB.out)) hb); clear HO_229000; clear HO_229001; clear HO_240000; clear HO_240001; clear BK228; clear BK239; clear HB; have HO_229000 := n0_; have HO_229001 := n1_; have HO_240000 := n2_; have HO_240001 := n3_; have BK228 := n4_; have BK239 := n5_; have HB := n6_; clear n0_ n1_ n2_ n3_ n4_ n5_ n6_; (try clear hb); (try clear hb2); (try clear hk); (try clear hi)))
                      go_ret
                      exact ⟨by first | rfl | (simp [errW_none, errW_some] <;> rfl) | (simp [*, errW_none, errW_some] <;> rfl), by repeat (first | (with_reducible first | exact HB.out | apply below_alloc | apply pw_below_drewN | apply below_drew1 | refine below_set ?_ GE228.out | refine below_set ?_ GE239.out) | exact HB.out)⟩
          · replace c36 := Bool.eq_false_iff.mpr c36
            subst c36
            have H1 : (some false) = some r := by rw [if_neg (show ¬ (false = true) by decide)] at H; exact H
            rw [hr_] at H1; exact absurd H1 (by decide)
/-- THE ONE PURE STATEMENT of laws_FnExactPairOfSteps. -/
def laws_FnExactPairOfSteps.Pure : Prop := ∀ (l0 : List Int), l0.length ≤ maxLen → l0.length * 8 ≤ 140737488351232 → (∀ x ∈ l0, (Lit.int .i64 x).wf = true) → ∃ k, laws_FnExactPairOfSteps.f k l0 = some true
theorem laws_FnExactPairOfSteps.walk (P : laws_FnExactPairOfSteps.Pure) (a0 : Option Addr) (len0 cap0 : Nat) (z0 : List Int) (w : World) (w0 : (a0 = none ∧ len0 = 0 ∧ cap0 = 0 ∧ z0 = []) ∨ ∃ x, a0 = some x ∧ len0 ≤ cap0 ∧ cap0 ≤ maxLen ∧ z0.length = cap0 ∧ (∀ i, i < z0.length → w.cell? (x.add i) = some (.int .i64 (z0.getD i 0))) ∧ ∀ n ∈ z0, (Lit.int .i64 n).wf = true) (y0 : len0 * 8 ≤ 140737488351232) :
    Calls Try.prog 5 #[.slice a0 len0 cap0] w fun e w' => e = .returned (.bool true) ∧ Below w.heap.size w w' := by
  obtain ⟨l0, rfl, hr0, hm0, hw0, hc0⟩ := ReadsInt.ofRowC w0
  obtain ⟨k, h⟩ := P l0 hm0 y0 hw0
  refine (laws_FnExactPairOfSteps.calls k _ _ l0 true w (Kd.C_of_reads (d := (0 : Int)) (h1 := fun _ => rfl) hr0) hc0 rfl h).mono ?_
  rintro e w' ⟨rfl, hd⟩
  exact ⟨rfl, hd⟩

end Go.Proofs.Ytbjdhipkdcfmlaa.QFnExactPairOfSteps
