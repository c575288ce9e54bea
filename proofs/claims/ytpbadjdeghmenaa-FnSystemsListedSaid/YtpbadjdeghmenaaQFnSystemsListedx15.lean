-- Written by wip/myprint.py (a program of mine round the kit's printer). Lean checks it.
import Derived.Test.YtpbadjdeghmenaaQFnSystemsListedx11
import Derived.Test.YtpbadjdeghmenaaQFnSystemsListedx14
namespace Go.Proofs.Ytpbadjdeghmenaa.QFnSystemsListed
open Go.RowKit Go.Proofs.YtpbadjdeghmenaaW.PrintWords Go.Proofs.YtpbadjdeghmenaaW.PrintLast Go.Proofs.YtpbadjdeghmenaaW.PrintMore
attribute [local go_sem] max2_int min2_int max_two min_two max_three min_three max_four min_four   -- for this text's walks alone
set_option linter.unusedVariables false
set_option linter.unusedSimpArgs false

set_option maxHeartbeats 8000000 in
set_option maxRecDepth 100000 in
theorem laws_FnSystemsListed.calls (k : Nat) (A0 : Option Addr) (c0 : Nat) (l0 : List Int) (A1 : Option Addr) (c1 : Nat) (l1 : List Int) (r : Bool) (w : World) (hr0 : Kd.C (Kd.int .u8) w A0 l0.length l0) (hc0 : l0.length ≤ c0) (hr1 : Kd.C (Kd.int .u8) w A1 l1.length l1) (hc1 : l1.length ≤ c1) (hr_ : r = true) (h : laws_FnSystemsListed.f k l0 l1 = some r) :
    Calls Try.prog 3 #[.slice A0 l0.length c0, .slice A1 l1.length c1] w fun e w' => e = .returned (.bool r) ∧ Below w.heap.size w w' := by
  have HR0 := Aside0.mk hr0
  have HC0 := Aside0.mk hc0
  clear hr0 hc0
  have HR1 := Aside0.mk hr1
  have HC1 := Aside0.mk hc1
  clear hr1 hc1
  have HB := Aside0.mk (Below.refl w.heap.size w)
  have H : ((laws_big.f l0 l1).bind fun t478 => (if t478 = true then (some true) else ((spec_DrawSystemWith.f k l0).bind fun bt479 => ((impl_SystemWith.f k bt479.1 bt479.2).bind fun bt481 => ((spec_SystemWith.f k bt479.1 bt479.2).bind fun bt485 => ((impl_CountSystems.f k bt479.1).bind fun bt489 => ((spec_CountSystems.f k bt479.1).bind fun bt491 => (if (bt481.2 != bt485.2) = true then (laws_FnSystemsListed.j0 k l0 l1 bt479.1 bt479.2 bt481.1 bt485.2 true) else ((laws_sSame.f k bt481.1 bt485.1).bind fun t493 => (if t493 = true then (if (bt489.2 != bt491.2) = true then (laws_FnSystemsListed.j0 k l0 l1 bt479.1 bt479.2 bt481.1 bt485.2 true) else (if bt489.1 = bt491.1 then (if bt489.2 = true then (if bt479.2 ≥ 0 then (laws_FnSystemsListed.j0 k l0 l1 bt479.1 bt479.2 bt481.1 bt485.2 (bt481.2 != (decide (bt479.2 < bt489.1)))) else (laws_FnSystemsListed.j0 k l0 l1 bt479.1 bt479.2 bt481.1 bt485.2 (bt481.2 != false))) else (laws_FnSystemsListed.j0 k l0 l1 bt479.1 bt479.2 bt481.1 bt485.2 (bt481.2 != false))) else (laws_FnSystemsListed.j0 k l0 l1 bt479.1 bt479.2 bt481.1 bt485.2 true))) else (laws_FnSystemsListed.j0 k l0 l1 bt479.1 bt479.2 bt481.1 bt485.2 true))))))))))) = some r := h
  clear h
  replace H := Option.bind_eq_some_iff.mp H
  obtain ⟨t478, A30, H⟩ := H
  replace H : (if t478 = true then (some true) else ((spec_DrawSystemWith.f k l0).bind fun bt479 => ((impl_SystemWith.f k bt479.1 bt479.2).bind fun bt481 => ((spec_SystemWith.f k bt479.1 bt479.2).bind fun bt485 => ((impl_CountSystems.f k bt479.1).bind fun bt489 => ((spec_CountSystems.f k bt479.1).bind fun bt491 => (if (bt481.2 != bt485.2) = true then (laws_FnSystemsListed.j0 k l0 l1 bt479.1 bt479.2 bt481.1 bt485.2 true) else ((laws_sSame.f k bt481.1 bt485.1).bind fun t493 => (if t493 = true then (if (bt489.2 != bt491.2) = true then (laws_FnSystemsListed.j0 k l0 l1 bt479.1 bt479.2 bt481.1 bt485.2 true) else (if bt489.1 = bt491.1 then (if bt489.2 = true then (if bt479.2 ≥ 0 then (laws_FnSystemsListed.j0 k l0 l1 bt479.1 bt479.2 bt481.1 bt485.2 (bt481.2 != (decide (bt479.2 < bt489.1)))) else (laws_FnSystemsListed.j0 k l0 l1 bt479.1 bt479.2 bt481.1 bt485.2 (bt481.2 != false))) else (laws_FnSystemsListed.j0 k l0 l1 bt479.1 bt479.2 bt481.1 bt485.2 (bt481.2 != false))) else (laws_FnSystemsListed.j0 k l0 l1 bt479.1 bt479.2 bt481.1 bt485.2 true))) else (laws_FnSystemsListed.j0 k l0 l1 bt479.1 bt479.2 bt481.1 bt485.2 true)))))))))) = some r := H
  have A3 := Aside0.mk A30
  clear A30
  by_cases c4 : t478 = true
  · subst c4
    have H1 : (some true) = some r := by rw [if_pos rfl] at H; exact H
    clear H
    have H := H1
    clear H1
    have hrr_ := Option.some.inj H
    rw [hr_] at hrr_
    first
      | exact absurd hrr_ (by decide)
      | (clear hrr_
         obtain rfl := Option.some.inj H
         go_enter Try.func3, Try.ntmps3
         go_wp2_with (first | ((with_reducible refine gate_callee (f := 4) rfl ?_); refine goesL_ (some 48) rfl rfl Try.func4 (by kernel_rfl) rfl #[.slice A0 l0.length c0, .slice A1 l1.length c1] rfl (by (try simp only [List.map_toArray, List.map_cons, List.map_nil]); first | done | rfl) ?_; (with_reducible refine (laws_big.calls _ _ l0 _ _ l1 true _ ?side1 ?side2 ?side3 ?side4 A3.out).mono ?_); (case side1 => repeat (first | exact HR0.out | (with_reducible refine Kd.C_alloc ?_ _) | (with_reducible refine Kd.C_drewN ?_ _) | (with_reducible refine Kd.C_drew ?_))); (case side2 => exact HC0.out); (case side3 => repeat (first | exact HR1.out | (with_reducible refine Kd.C_alloc ?_ _) | (with_reducible refine Kd.C_drewN ?_ _) | (with_reducible refine Kd.C_drew ?_))); (case side4 => exact HC1.out); rintro e w' ⟨rfl, ⟨nd, rfl⟩⟩; refine ⟨_, rfl, ?_⟩))
         go_ret
         exact ⟨by first | rfl | (simp [*, errW_none, errW_some] <;> rfl), by repeat (first | exact HB.out | apply bA | apply bN | apply bD)⟩)
  · replace c4 := Bool.eq_false_iff.mpr c4
    subst c4
    have H1 : ((spec_DrawSystemWith.f k l0).bind fun bt479 => ((impl_SystemWith.f k bt479.1 bt479.2).bind fun bt481 => ((spec_SystemWith.f k bt479.1 bt479.2).bind fun bt485 => ((impl_CountSystems.f k bt479.1).bind fun bt489 => ((spec_CountSystems.f k bt479.1).bind fun bt491 => (if (bt481.2 != bt485.2) = true then (laws_FnSystemsListed.j0 k l0 l1 bt479.1 bt479.2 bt481.1 bt485.2 true) else ((laws_sSame.f k bt481.1 bt485.1).bind fun t493 => (if t493 = true then (if (bt489.2 != bt491.2) = true then (laws_FnSystemsListed.j0 k l0 l1 bt479.1 bt479.2 bt481.1 bt485.2 true) else (if bt489.1 = bt491.1 then (if bt489.2 = true then (if bt479.2 ≥ 0 then (laws_FnSystemsListed.j0 k l0 l1 bt479.1 bt479.2 bt481.1 bt485.2 (bt481.2 != (decide (bt479.2 < bt489.1)))) else (laws_FnSystemsListed.j0 k l0 l1 bt479.1 bt479.2 bt481.1 bt485.2 (bt481.2 != false))) else (laws_FnSystemsListed.j0 k l0 l1 bt479.1 bt479.2 bt481.1 bt485.2 (bt481.2 != false))) else (laws_FnSystemsListed.j0 k l0 l1 bt479.1 bt479.2 bt481.1 bt485.2 true))) else (laws_FnSystemsListed.j0 k l0 l1 bt479.1 bt479.2 bt481.1 bt485.2 true))))))))) = some r := by rw [if_neg (show ¬ (false = true) by decide)] at H; exact H
    clear H
    have H := H1
    clear H1
    replace H := Option.bind_eq_some_iff.mp H
    obtain ⟨⟨t479, t480⟩, A50, H⟩ := H
    replace H : ((impl_SystemWith.f k t479 t480).bind fun bt481 => ((spec_SystemWith.f k t479 t480).bind fun bt485 => ((impl_CountSystems.f k t479).bind fun bt489 => ((spec_CountSystems.f k t479).bind fun bt491 => (if (bt481.2 != bt485.2) = true then (laws_FnSystemsListed.j0 k l0 l1 t479 t480 bt481.1 bt485.2 true) else ((laws_sSame.f k bt481.1 bt485.1).bind fun t493 => (if t493 = true then (if (bt489.2 != bt491.2) = true then (laws_FnSystemsListed.j0 k l0 l1 t479 t480 bt481.1 bt485.2 true) else (if bt489.1 = bt491.1 then (if bt489.2 = true then (if t480 ≥ 0 then (laws_FnSystemsListed.j0 k l0 l1 t479 t480 bt481.1 bt485.2 (bt481.2 != (decide (t480 < bt489.1)))) else (laws_FnSystemsListed.j0 k l0 l1 t479 t480 bt481.1 bt485.2 (bt481.2 != false))) else (laws_FnSystemsListed.j0 k l0 l1 t479 t480 bt481.1 bt485.2 (bt481.2 != false))) else (laws_FnSystemsListed.j0 k l0 l1 t479 t480 bt481.1 bt485.2 true))) else (laws_FnSystemsListed.j0 k l0 l1 t479 t480 bt481.1 bt485.2 true)))))))) = some r := H
    have A5 := Aside0.mk A50
    clear A50
    replace H := Option.bind_eq_some_iff.mp H
    obtain ⟨⟨t481, t482⟩, A60, H⟩ := H
    replace H : ((spec_SystemWith.f k t479 t480).bind fun bt485 => ((impl_CountSystems.f k t479).bind fun bt489 => ((spec_CountSystems.f k t479).bind fun bt491 => (if (t482 != bt485.2) = true then (laws_FnSystemsListed.j0 k l0 l1 t479 t480 t481 bt485.2 true) else ((laws_sSame.f k t481 bt485.1).bind fun t493 => (if t493 = true then (if (bt489.2 != bt491.2) = true then (laws_FnSystemsListed.j0 k l0 l1 t479 t480 t481 bt485.2 true) else (if bt489.1 = bt491.1 then (if bt489.2 = true then (if t480 ≥ 0 then (laws_FnSystemsListed.j0 k l0 l1 t479 t480 t481 bt485.2 (t482 != (decide (t480 < bt489.1)))) else (laws_FnSystemsListed.j0 k l0 l1 t479 t480 t481 bt485.2 (t482 != false))) else (laws_FnSystemsListed.j0 k l0 l1 t479 t480 t481 bt485.2 (t482 != false))) else (laws_FnSystemsListed.j0 k l0 l1 t479 t480 t481 bt485.2 true))) else (laws_FnSystemsListed.j0 k l0 l1 t479 t480 t481 bt485.2 true))))))) = some r := H
    have A6 := Aside0.mk A60
    clear A60
    replace H := Option.bind_eq_some_iff.mp H
    obtain ⟨⟨t485, t486⟩, A70, H⟩ := H
    replace H : ((impl_CountSystems.f k t479).bind fun bt489 => ((spec_CountSystems.f k t479).bind fun bt491 => (if (t482 != t486) = true then (laws_FnSystemsListed.j0 k l0 l1 t479 t480 t481 t486 true) else ((laws_sSame.f k t481 t485).bind fun t493 => (if t493 = true then (if (bt489.2 != bt491.2) = true then (laws_FnSystemsListed.j0 k l0 l1 t479 t480 t481 t486 true) else (if bt489.1 = bt491.1 then (if bt489.2 = true then (if t480 ≥ 0 then (laws_FnSystemsListed.j0 k l0 l1 t479 t480 t481 t486 (t482 != (decide (t480 < bt489.1)))) else (laws_FnSystemsListed.j0 k l0 l1 t479 t480 t481 t486 (t482 != false))) else (laws_FnSystemsListed.j0 k l0 l1 t479 t480 t481 t486 (t482 != false))) else (laws_FnSystemsListed.j0 k l0 l1 t479 t480 t481 t486 true))) else (laws_FnSystemsListed.j0 k l0 l1 t479 t480 t481 t486 true)))))) = some r := H
    have A7 := Aside0.mk A70
    clear A70
    replace H := Option.bind_eq_some_iff.mp H
    obtain ⟨⟨t489, t490⟩, A80, H⟩ := H
    replace H : ((spec_CountSystems.f k t479).bind fun bt491 => (if (t482 != t486) = true then (laws_FnSystemsListed.j0 k l0 l1 t479 t480 t481 t486 true) else ((laws_sSame.f k t481 t485).bind fun t493 => (if t493 = true then (if (t490 != bt491.2) = true then (laws_FnSystemsListed.j0 k l0 l1 t479 t480 t481 t486 true) else (if t489 = bt491.1 then (if t490 = true then (if t480 ≥ 0 then (laws_FnSystemsListed.j0 k l0 l1 t479 t480 t481 t486 (t482 != (decide (t480 < t489)))) else (laws_FnSystemsListed.j0 k l0 l1 t479 t480 t481 t486 (t482 != false))) else (laws_FnSystemsListed.j0 k l0 l1 t479 t480 t481 t486 (t482 != false))) else (laws_FnSystemsListed.j0 k l0 l1 t479 t480 t481 t486 true))) else (laws_FnSystemsListed.j0 k l0 l1 t479 t480 t481 t486 true))))) = some r := H
    have A8 := Aside0.mk A80
    clear A80
    replace H := Option.bind_eq_some_iff.mp H
    obtain ⟨⟨t491, t492⟩, A90, H⟩ := H
    replace H : (if (t482 != t486) = true then (laws_FnSystemsListed.j0 k l0 l1 t479 t480 t481 t486 true) else ((laws_sSame.f k t481 t485).bind fun t493 => (if t493 = true then (if (t490 != t492) = true then (laws_FnSystemsListed.j0 k l0 l1 t479 t480 t481 t486 true) else (if t489 = t491 then (if t490 = true then (if t480 ≥ 0 then (laws_FnSystemsListed.j0 k l0 l1 t479 t480 t481 t486 (t482 != (decide (t480 < t489)))) else (laws_FnSystemsListed.j0 k l0 l1 t479 t480 t481 t486 (t482 != false))) else (laws_FnSystemsListed.j0 k l0 l1 t479 t480 t481 t486 (t482 != false))) else (laws_FnSystemsListed.j0 k l0 l1 t479 t480 t481 t486 true))) else (laws_FnSystemsListed.j0 k l0 l1 t479 t480 t481 t486 true)))) = some r := H
    have A9 := Aside0.mk A90
    clear A90
    have HC10 := Aside0.mk H
    clear H
    go_enter Try.func3, Try.ntmps3
    go_upto_region 8 with (first | ((with_reducible refine gate_callee (f := 4) rfl ?_); refine goesL_ (some 48) rfl rfl Try.func4 (by kernel_rfl) rfl #[.slice A0 l0.length c0, .slice A1 l1.length c1] rfl (by (try simp only [List.map_toArray, List.map_cons, List.map_nil]); first | done | rfl) ?_; (with_reducible refine (laws_big.calls _ _ l0 _ _ l1 false _ ?side1 ?side2 ?side3 ?side4 A3.out).mono ?_); (case side1 => repeat (first | exact HR0.out | (with_reducible refine Kd.C_alloc ?_ _) | (with_reducible refine Kd.C_drewN ?_ _) | (with_reducible refine Kd.C_drew ?_))); (case side2 => exact HC0.out); (case side3 => repeat (first | exact HR1.out | (with_reducible refine Kd.C_alloc ?_ _) | (with_reducible refine Kd.C_drewN ?_ _) | (with_reducible refine Kd.C_drew ?_))); (case side4 => exact HC1.out); rintro e w' ⟨rfl, ⟨nd, rfl⟩⟩; refine ⟨_, rfl, ?_⟩) | ((with_reducible refine gate_callee (f := 5) rfl ?_); refine goesL_ (some 51) rfl rfl Try.func5 (by kernel_rfl) rfl #[.slice A0 l0.length c0] rfl (by (try simp only [List.map_toArray, List.map_cons, List.map_nil]); first | done | rfl) ?_; (with_reducible refine (spec_DrawSystemWith.calls k _ _ l0 t479 t480 _ ?side1 ?side2 A5.out).mono ?_); (case side1 => repeat (first | exact HR0.out | (with_reducible refine Kd.C_alloc ?_ _) | (with_reducible refine Kd.C_drewN ?_ _) | (with_reducible refine Kd.C_drew ?_))); (case side2 => exact HC0.out); rintro e w11 ⟨rfl, hb⟩; refine ⟨_, rfl, ?_⟩; replace HB := Aside0.mk (below_step (by repeat (first | exact HB.out | apply bA | apply bN | apply bD)) hb); (try clear hb2); (try clear hb hk hi)) | ((with_reducible refine gate_callee (f := 6) rfl ?_); refine goesL_ (some 57) rfl rfl Try.func6 (by kernel_rfl) rfl #[.int .i64 t479, .int .i64 t480] rfl (by (try simp only [List.map_toArray, List.map_cons, List.map_nil]); first | done | rfl) ?_; (with_reducible refine (impl_SystemWith.calls k t479 t480 t481 t482 _ A6.out).mono ?_); rintro e w12 ⟨v483, rfl, ho0, hb⟩; refine ⟨_, rfl, ?_⟩; have HO484 := Aside0.mk (Kd.R_lower ho0 (below_size (by repeat (first | exact HB.out | apply bA | apply bN | apply bD)))); replace HB := Aside0.mk (below_step (by repeat (first | exact HB.out | apply bA | apply bN | apply bD)) hb); (try clear hb2); (try clear hb hk hi); (try clear ho0)) | ((with_reducible refine gate_callee (f := 7) rfl ?_); refine goesL_ (some 63) rfl rfl Try.func7 (by kernel_rfl) rfl #[.int .i64 t479, .int .i64 t480] rfl (by (try simp only [List.map_toArray, List.map_cons, List.map_nil]); first | done | rfl) ?_; (with_reducible refine (spec_SystemWith.calls k t479 t480 t485 t486 _ A7.out).mono ?_); rintro e w13 ⟨v487, rfl, ho0, hb⟩; refine ⟨_, rfl, ?_⟩; have HO488 := Aside0.mk (Kd.R_lower (Kd.R_new' ho0 (Kd.R_lt (by (with_reducible repeat (first | apply rA | apply rN | apply rD)); exact HO484.out))) (below_size (by repeat (first | exact HB.out | apply bA | apply bN | apply bD)))); replace HO484 := Aside0.mk (Kd.R_elder' (by (with_reducible repeat (first | apply rA | apply rN | apply rD)); exact HO484.out) (Kd.R_base ho0) hb); replace HB := Aside0.mk (below_step (by repeat (first | exact HB.out | apply bA | apply bN | apply bD)) hb); (try clear hb2); (try clear hb hk hi); (try clear ho0)) | ((with_reducible refine gate_callee (f := 8) rfl ?_); refine goesL_ (some 68) rfl rfl Try.func8 (by kernel_rfl) rfl #[.int .i64 t479] rfl (by (try simp only [List.map_toArray, List.map_cons, List.map_nil]); first | done | rfl) ?_; (with_reducible refine (impl_CountSystems.calls k t479 t489 t490 _ A8.out).mono ?_); rintro e w14 ⟨rfl, hb⟩; refine ⟨_, rfl, ?_⟩; replace HO484 := Aside0.mk (Kd.R_below (by (with_reducible repeat (first | apply rA | apply rN | apply rD)); exact HO484.out) hb); replace HO488 := Aside0.mk (Kd.R_below (by (with_reducible repeat (first | apply rA | apply rN | apply rD)); exact HO488.out) hb); replace HB := Aside0.mk (below_step (by repeat (first | exact HB.out | apply bA | apply bN | apply bD)) hb); (try clear hb2); (try clear hb hk hi)) | ((with_reducible refine gate_callee (f := 9) rfl ?_); refine goesL_ (some 73) rfl rfl Try.func9 (by kernel_rfl) rfl #[.int .i64 t479] rfl (by (try simp only [List.map_toArray, List.map_cons, List.map_nil]); first | done | rfl) ?_; (with_reducible refine (spec_CountSystems.calls k t479 t491 t492 _ A9.out).mono ?_); rintro e w' ⟨rfl, ⟨nd, rfl⟩⟩; refine ⟨_, rfl, ?_⟩))
    (try simp only [Act.put, List.setIfInBounds_toArray, List.set_cons_zero, List.set_cons_succ])
    go_cut [108] (fun v108 wc => ∃ (kq : Nat) (x108_9 : Bool), v108 = .bool x108_9 ∧ Aside0 (laws_FnSystemsListed.j0 kq l0 l1 t479 t480 t481 t486 x108_9 = some r) ∧ Aside0 (kq ≤ k) ∧ Aside0 (Kd.R (Kd.int .i64) 3 wc w.heap.size (fun _ => True) v483 t481) ∧ Aside0 (Below w.heap.size w wc))
    case first =>
      have H := HC10.out
      clear HC10
      by_cases c15 : (t482 != t486) = true
      · rw [if_pos c15] at H
        have c15b0 : (t482 != t486) = true := c15
        (try (have c15b1 : decide (t482 = t486) = false := by simpa using c15))
        (try (have c15b2 : (t482 == t486) = false := by simpa using c15))
        (try (have c15b3 : ¬ (t482 = t486) := by simpa using c15))
        clear c15
        (first | rw [c15b0] | (simp only [i64_w, i32_w]; rw [c15b0]) | skip)
        have H' := Aside0.mk H
        clear H
        go_wp2
        go_meet
        case rel => exact ⟨_, (true), (by first | rfl | (simp; done) | (simp [*]; done)), H', ⟨by first | omega | exact Nat.le_refl _⟩, ⟨by (with_reducible repeat (first | apply rA | apply rN | apply rD)); exact Kd.R_mono HO484.out (fun _ hk => trivial)⟩, ⟨by repeat (first | exact HB.out | apply bA | apply bN | apply bD)⟩⟩
      · rw [if_neg c15] at H
        have c15b0 : (t482 != t486) = false := by simpa using c15
        (try (have c15b1 : decide (t482 = t486) = true := by simpa using c15))
        (try (have c15b2 : (t482 == t486) = true := by simpa using c15))
        clear c15
        (first | rw [c15b0] | (simp only [i64_w, i32_w]; rw [c15b0]) | skip)
        replace H := Option.bind_eq_some_iff.mp H
        obtain ⟨t493, A160, H⟩ := H
        replace H : (if t493 = true then (if (t490 != t492) = true then (laws_FnSystemsListed.j0 k l0 l1 t479 t480 t481 t486 true) else (if t489 = t491 then (if t490 = true then (if t480 ≥ 0 then (laws_FnSystemsListed.j0 k l0 l1 t479 t480 t481 t486 (t482 != (decide (t480 < t489)))) else (laws_FnSystemsListed.j0 k l0 l1 t479 t480 t481 t486 (t482 != false))) else (laws_FnSystemsListed.j0 k l0 l1 t479 t480 t481 t486 (t482 != false))) else (laws_FnSystemsListed.j0 k l0 l1 t479 t480 t481 t486 true))) else (laws_FnSystemsListed.j0 k l0 l1 t479 t480 t481 t486 true)) = some r := H
        have A16 := Aside0.mk A160
        clear A160
        by_cases c17 : t493 = true
        · subst c17
          have H1 : (if (t490 != t492) = true then (laws_FnSystemsListed.j0 k l0 l1 t479 t480 t481 t486 true) else (if t489 = t491 then (if t490 = true then (if t480 ≥ 0 then (laws_FnSystemsListed.j0 k l0 l1 t479 t480 t481 t486 (t482 != (decide (t480 < t489)))) else (laws_FnSystemsListed.j0 k l0 l1 t479 t480 t481 t486 (t482 != false))) else (laws_FnSystemsListed.j0 k l0 l1 t479 t480 t481 t486 (t482 != false))) else (laws_FnSystemsListed.j0 k l0 l1 t479 t480 t481 t486 true))) = some r := by rw [if_pos rfl] at H; exact H
          clear H
          have H := H1
          clear H1
          by_cases c18 : (t490 != t492) = true
          · rw [if_pos c18] at H
            have c18b0 : (t490 != t492) = true := c18
            (try (have c18b1 : decide (t490 = t492) = false := by simpa using c18))
            (try (have c18b2 : (t490 == t492) = false := by simpa using c18))
            (try (have c18b3 : ¬ (t490 = t492) := by simpa using c18))
            clear c18
            have H' := Aside0.mk H
            clear H
            obtain ⟨Ao19, co19, eo19⟩ := Kd.R_slice HO484.out
            subst eo19
            obtain ⟨Ao20, co20, eo20⟩ := Kd.R_slice HO488.out
            subst eo20
            go_wp2_with (first | (go_at_call 10; (with_reducible refine (laws_sSame.calls k _ _ t481 _ _ t485 true _ ?side1 ?side2 ?side3 ?side4 A16.out).mono ?_); (case side1 => repeat (first | exact (Kd.R_reads' HO484.out).2.2 | (with_reducible refine Kd.C_alloc ?_ _) | (with_reducible refine Kd.C_drewN ?_ _) | (with_reducible refine Kd.C_drew ?_))); (case side2 => exact (Kd.R_reads' HO484.out).2.1); (case side3 => repeat (first | exact (Kd.R_reads' HO488.out).2.2 | (with_reducible refine Kd.C_alloc ?_ _) | (with_reducible refine Kd.C_drewN ?_ _) | (with_reducible refine Kd.C_drew ?_))); (case side4 => exact (Kd.R_reads' HO488.out).2.1); rintro e w' ⟨rfl, ⟨nd, rfl⟩⟩))
            go_meet
            case rel => exact ⟨_, (true), (by first | rfl | (simp; done) | (simp [*]; done)), H', ⟨by first | omega | exact Nat.le_refl _⟩, ⟨by (with_reducible repeat (first | apply rA | apply rN | apply rD)); exact Kd.R_mono HO484.out (fun _ hk => trivial)⟩, ⟨by repeat (first | exact HB.out | apply bA | apply bN | apply bD)⟩⟩
          · rw [if_neg c18] at H
            have c18b0 : (t490 != t492) = false := by simpa using c18
            (try (have c18b1 : decide (t490 = t492) = true := by simpa using c18))
            (try (have c18b2 : (t490 == t492) = true := by simpa using c18))
            clear c18
            by_cases c21 : t489 = t491
            · rw [if_pos c21] at H
              have c21b0 : (t489 == t491) = true := beq_iff_eq.mpr c21
              have c21b1 : (t489 != t491) = false := bne_eq_false_iff_eq.mpr c21
              clear c21
              by_cases c22 : t490 = true
              · subst c22
                have H1 : (if t480 ≥ 0 then (laws_FnSystemsListed.j0 k l0 l1 t479 t480 t481 t486 (t482 != (decide (t480 < t489)))) else (laws_FnSystemsListed.j0 k l0 l1 t479 t480 t481 t486 (t482 != false))) = some r := by rw [if_pos rfl] at H; exact H
                clear H
                have H := H1
                clear H1
                by_cases c23 : t480 ≥ 0
                · rw [if_pos c23] at H
                  have c23b0 : decide (0 ≤ t480) = true := decide_eq_true c23
                  clear c23
                  have H' := Aside0.mk H
                  clear H
                  obtain ⟨Ao24, co24, eo24⟩ := Kd.R_slice HO484.out
                  subst eo24
                  obtain ⟨Ao25, co25, eo25⟩ := Kd.R_slice HO488.out
                  subst eo25
                  go_wp2_with (first | (go_at_call 10; (with_reducible refine (laws_sSame.calls k _ _ t481 _ _ t485 true _ ?side1 ?side2 ?side3 ?side4 A16.out).mono ?_); (case side1 => repeat (first | exact (Kd.R_reads' HO484.out).2.2 | (with_reducible refine Kd.C_alloc ?_ _) | (with_reducible refine Kd.C_drewN ?_ _) | (with_reducible refine Kd.C_drew ?_))); (case side2 => exact (Kd.R_reads' HO484.out).2.1); (case side3 => repeat (first | exact (Kd.R_reads' HO488.out).2.2 | (with_reducible refine Kd.C_alloc ?_ _) | (with_reducible refine Kd.C_drewN ?_ _) | (with_reducible refine Kd.C_drew ?_))); (case side4 => exact (Kd.R_reads' HO488.out).2.1); rintro e w' ⟨rfl, ⟨nd, rfl⟩⟩))
                  go_meet
                  case rel => exact ⟨_, ((t482 != (decide (t480 < t489)))), (by first | rfl | (simp; done) | (simp [*]; done)), H', ⟨by first | omega | exact Nat.le_refl _⟩, ⟨by (with_reducible repeat (first | apply rA | apply rN | apply rD)); exact Kd.R_mono HO484.out (fun _ hk => trivial)⟩, ⟨by repeat (first | exact HB.out | apply bA | apply bN | apply bD)⟩⟩
                · rw [if_neg c23] at H
                  have c23b0 : decide (0 ≤ t480) = false := decide_eq_false c23
                  clear c23
                  have H' := Aside0.mk H
                  clear H
                  obtain ⟨Ao26, co26, eo26⟩ := Kd.R_slice HO484.out
                  subst eo26
                  obtain ⟨Ao27, co27, eo27⟩ := Kd.R_slice HO488.out
                  subst eo27
                  go_wp2_with (first | (go_at_call 10; (with_reducible refine (laws_sSame.calls k _ _ t481 _ _ t485 true _ ?side1 ?side2 ?side3 ?side4 A16.out).mono ?_); (case side1 => repeat (first | exact (Kd.R_reads' HO484.out).2.2 | (with_reducible refine Kd.C_alloc ?_ _) | (with_reducible refine Kd.C_drewN ?_ _) | (with_reducible refine Kd.C_drew ?_))); (case side2 => exact (Kd.R_reads' HO484.out).2.1); (case side3 => repeat (first | exact (Kd.R_reads' HO488.out).2.2 | (with_reducible refine Kd.C_alloc ?_ _) | (with_reducible refine Kd.C_drewN ?_ _) | (with_reducible refine Kd.C_drew ?_))); (case side4 => exact (Kd.R_reads' HO488.out).2.1); rintro e w' ⟨rfl, ⟨nd, rfl⟩⟩))
                  go_meet
                  case rel => exact ⟨_, ((t482 != false)), (by first | rfl | (simp; done) | (simp [*]; done)), H', ⟨by first | omega | exact Nat.le_refl _⟩, ⟨by (with_reducible repeat (first | apply rA | apply rN | apply rD)); exact Kd.R_mono HO484.out (fun _ hk => trivial)⟩, ⟨by repeat (first | exact HB.out | apply bA | apply bN | apply bD)⟩⟩
              · replace c22 := Bool.eq_false_iff.mpr c22
                subst c22
                have H1 : (laws_FnSystemsListed.j0 k l0 l1 t479 t480 t481 t486 (t482 != false)) = some r := by rw [if_neg (show ¬ (false = true) by decide)] at H; exact H
                clear H
                have H := H1
                clear H1
                have H' := Aside0.mk H
                clear H
                obtain ⟨Ao28, co28, eo28⟩ := Kd.R_slice HO484.out
                subst eo28
                obtain ⟨Ao29, co29, eo29⟩ := Kd.R_slice HO488.out
                subst eo29
                go_wp2_with (first | (go_at_call 10; (with_reducible refine (laws_sSame.calls k _ _ t481 _ _ t485 true _ ?side1 ?side2 ?side3 ?side4 A16.out).mono ?_); (case side1 => repeat (first | exact (Kd.R_reads' HO484.out).2.2 | (with_reducible refine Kd.C_alloc ?_ _) | (with_reducible refine Kd.C_drewN ?_ _) | (with_reducible refine Kd.C_drew ?_))); (case side2 => exact (Kd.R_reads' HO484.out).2.1); (case side3 => repeat (first | exact (Kd.R_reads' HO488.out).2.2 | (with_reducible refine Kd.C_alloc ?_ _) | (with_reducible refine Kd.C_drewN ?_ _) | (with_reducible refine Kd.C_drew ?_))); (case side4 => exact (Kd.R_reads' HO488.out).2.1); rintro e w' ⟨rfl, ⟨nd, rfl⟩⟩))
                go_meet
                case rel => exact ⟨_, ((t482 != false)), (by first | rfl | (simp; done) | (simp [*]; done)), H', ⟨by first | omega | exact Nat.le_refl _⟩, ⟨by (with_reducible repeat (first | apply rA | apply rN | apply rD)); exact Kd.R_mono HO484.out (fun _ hk => trivial)⟩, ⟨by repeat (first | exact HB.out | apply bA | apply bN | apply bD)⟩⟩
            · rw [if_neg c21] at H
              have c21b0 : (t489 == t491) = false := beq_eq_false_iff_ne.mpr c21
              have c21b1 : (t489 != t491) = true := bne_iff_ne.mpr c21
              have H' := Aside0.mk H
              clear H
              obtain ⟨Ao30, co30, eo30⟩ := Kd.R_slice HO484.out
              subst eo30
              obtain ⟨Ao31, co31, eo31⟩ := Kd.R_slice HO488.out
              subst eo31
              go_wp2_with (first | (go_at_call 10; (with_reducible refine (laws_sSame.calls k _ _ t481 _ _ t485 true _ ?side1 ?side2 ?side3 ?side4 A16.out).mono ?_); (case side1 => repeat (first | exact (Kd.R_reads' HO484.out).2.2 | (with_reducible refine Kd.C_alloc ?_ _) | (with_reducible refine Kd.C_drewN ?_ _) | (with_reducible refine Kd.C_drew ?_))); (case side2 => exact (Kd.R_reads' HO484.out).2.1); (case side3 => repeat (first | exact (Kd.R_reads' HO488.out).2.2 | (with_reducible refine Kd.C_alloc ?_ _) | (with_reducible refine Kd.C_drewN ?_ _) | (with_reducible refine Kd.C_drew ?_))); (case side4 => exact (Kd.R_reads' HO488.out).2.1); rintro e w' ⟨rfl, ⟨nd, rfl⟩⟩))
              go_meet
              case rel => exact ⟨_, (true), (by first | rfl | (simp; done) | (simp [*]; done)), H', ⟨by first | omega | exact Nat.le_refl _⟩, ⟨by (with_reducible repeat (first | apply rA | apply rN | apply rD)); exact Kd.R_mono HO484.out (fun _ hk => trivial)⟩, ⟨by repeat (first | exact HB.out | apply bA | apply bN | apply bD)⟩⟩
        · replace c17 := Bool.eq_false_iff.mpr c17
          subst c17
          have H1 : (laws_FnSystemsListed.j0 k l0 l1 t479 t480 t481 t486 true) = some r := by rw [if_neg (show ¬ (false = true) by decide)] at H; exact H
          rw [hr_] at H1; exact absurd H1 (laws_FnSystemsListed.j0_no _ _ _ _ _ _ _)
    case rest =>
      clear HC10
      try clear p2
      obtain ⟨kq, x108_9, rfl, HA, HJ9, HO_7, HB⟩ := hcut
      cases kq with
      | zero => exact absurd HA.out (by simp [laws_FnSystemsListed.j0])
      | succ kj9 =>
        have H := HA.out
        clear HA
        simp only [laws_FnSystemsListed.j0] at H
        by_cases c34 : x108_9 = true
        · subst c34
          have H1 : (some false) = some r := by rw [if_pos rfl] at H; exact H
          rw [hr_] at H1; exact absurd H1 (by decide)
        · replace c34 := Bool.eq_false_iff.mpr c34
          subst c34
          have H1 : ((spec_DrawAllSystems.f l1).bind fun t494 => ((impl_AllSystems.f kj9 t494).bind fun bt495 => ((spec_AllSystems.f kj9 t494).bind fun bt499 => (if (bt495.2 != bt499.2) = true then (laws_FnSystemsListed.j1 kj9 l0 l1 t479 t480 t481 t486 t494 bt495.1 bt495.2 true) else ((laws_sSameRows.f kj9 bt495.1 bt499.1).bind fun t503 => (laws_FnSystemsListed.j1 kj9 l0 l1 t479 t480 t481 t486 t494 bt495.1 bt495.2 (!t503))))))) = some r := by rw [if_neg (show ¬ (false = true) by decide)] at H; exact H
          clear H
          have H := H1
          clear H1
          replace H := Option.bind_eq_some_iff.mp H
          obtain ⟨t494, A350, H⟩ := H
          replace H : ((impl_AllSystems.f kj9 t494).bind fun bt495 => ((spec_AllSystems.f kj9 t494).bind fun bt499 => (if (bt495.2 != bt499.2) = true then (laws_FnSystemsListed.j1 kj9 l0 l1 t479 t480 t481 t486 t494 bt495.1 bt495.2 true) else ((laws_sSameRows.f kj9 bt495.1 bt499.1).bind fun t503 => (laws_FnSystemsListed.j1 kj9 l0 l1 t479 t480 t481 t486 t494 bt495.1 bt495.2 (!t503)))))) = some r := H
          have A35 := Aside0.mk A350
          clear A350
          replace H := Option.bind_eq_some_iff.mp H
          obtain ⟨⟨t495, t496⟩, A360, H⟩ := H
          replace H : ((spec_AllSystems.f kj9 t494).bind fun bt499 => (if (t496 != bt499.2) = true then (laws_FnSystemsListed.j1 kj9 l0 l1 t479 t480 t481 t486 t494 t495 t496 true) else ((laws_sSameRows.f kj9 t495 bt499.1).bind fun t503 => (laws_FnSystemsListed.j1 kj9 l0 l1 t479 t480 t481 t486 t494 t495 t496 (!t503))))) = some r := H
          have A36 := Aside0.mk A360
          clear A360
          replace H := Option.bind_eq_some_iff.mp H
          obtain ⟨⟨t499, t500⟩, A370, H⟩ := H
          replace H : (if (t496 != t500) = true then (laws_FnSystemsListed.j1 kj9 l0 l1 t479 t480 t481 t486 t494 t495 t496 true) else ((laws_sSameRows.f kj9 t495 t499).bind fun t503 => (laws_FnSystemsListed.j1 kj9 l0 l1 t479 t480 t481 t486 t494 t495 t496 (!t503)))) = some r := H
          have A37 := Aside0.mk A370
          clear A370
          have HC38 := Aside0.mk H
          clear H
          go_upto_region 13 with (first | ((with_reducible refine gate_callee (f := 11) rfl ?_); refine goesL_ (some 110) rfl rfl Try.func11 (by kernel_rfl) rfl #[.slice A1 l1.length c1] rfl (by (try simp only [List.map_toArray, List.map_cons, List.map_nil]); first | done | rfl) ?_; (with_reducible refine (spec_DrawAllSystems.calls _ _ l1 t494 _ ?side1 ?side2 A35.out).mono ?_); (case side1 => repeat (first | exact (Kd.C_below HR1.out HB.out) | (with_reducible refine Kd.C_alloc ?_ _) | (with_reducible refine Kd.C_drewN ?_ _) | (with_reducible refine Kd.C_drew ?_))); (case side2 => exact HC1.out); rintro e w39 ⟨rfl, hb⟩; refine ⟨_, rfl, ?_⟩; replace HO_7 := Aside0.mk (Kd.R_below (by (with_reducible repeat (first | apply rA | apply rN | apply rD)); exact HO_7.out) hb); replace HB := Aside0.mk (below_step (by repeat (first | exact HB.out | apply bA | apply bN | apply bD)) hb); (try clear hb2); (try clear hb hk hi)) | ((with_reducible refine gate_callee (f := 12) rfl ?_); refine goesL_ (some 113) rfl rfl Try.func12 (by kernel_rfl) rfl #[.int .i64 t494] rfl (by (try simp only [List.map_toArray, List.map_cons, List.map_nil]); first | done | rfl) ?_; (with_reducible refine (impl_AllSystems.calls kj9 t494 t495 t496 _ A36.out).mono ?_); rintro e w40 ⟨v497, rfl, ho0, hb⟩; refine ⟨_, rfl, ?_⟩; have HO498 := Aside0.mk (Kd.S_lower (Kd.S_new' ho0 (Kd.R_lt (by (with_reducible repeat (first | apply rA | apply rN | apply rD)); exact HO_7.out))) (below_size (by repeat (first | exact HB.out | apply bA | apply bN | apply bD)))); replace HO_7 := Aside0.mk (Kd.R_below (by (with_reducible repeat (first | apply rA | apply rN | apply rD)); exact HO_7.out) hb); replace HB := Aside0.mk (below_step (by repeat (first | exact HB.out | apply bA | apply bN | apply bD)) hb); (try clear hb2); (try clear hb hk hi); (try clear ho0)) | ((with_reducible refine gate_callee (f := 13) rfl ?_); refine goesL_ (some 118) rfl rfl Try.func13 (by kernel_rfl) rfl #[.int .i64 t494] rfl (by (try simp only [List.map_toArray, List.map_cons, List.map_nil]); first | done | rfl) ?_; (with_reducible refine (spec_AllSystems.calls kj9 t494 t499 t500 _ A37.out).mono ?_); rintro e w41 ⟨v501, rfl, ho0, hb⟩; refine ⟨_, rfl, ?_⟩; have HO502 := Aside0.mk (Kd.S_lower (Kd.S_new' (Kd.S_new' ho0 (Kd.R_lt (by (with_reducible repeat (first | apply rA | apply rN | apply rD)); exact HO_7.out))) (Kd.S_lt (by (with_reducible repeat (first | apply Kd.S_alloc | apply Kd.S_drewN | apply Kd.S_drew)); exact HO498.out))) (below_size (by repeat (first | exact HB.out | apply bA | apply bN | apply bD)))); replace HO_7 := Aside0.mk (Kd.R_below (by (with_reducible repeat (first | apply rA | apply rN | apply rD)); exact HO_7.out) hb); replace HO498 := Aside0.mk (Kd.S_elder' (by (with_reducible repeat (first | apply Kd.S_alloc | apply Kd.S_drewN | apply Kd.S_drew)); exact HO498.out) (Kd.S_base ho0) hb); replace HB := Aside0.mk (below_step (by repeat (first | exact HB.out | apply bA | apply bN | apply bD)) hb); (try clear hb2); (try clear hb hk hi); (try clear ho0)))
          (try simp only [Act.put, List.setIfInBounds_toArray, List.set_cons_zero, List.set_cons_succ])
          go_cut [129] (fun v129 wc => ∃ (kq : Nat) (x129_37 : Bool), v129 = .bool x129_37 ∧ Aside0 (laws_FnSystemsListed.j1 kq l0 l1 t479 t480 t481 t486 t494 t495 t496 x129_37 = some r) ∧ Aside0 (kq ≤ kj9) ∧ Aside0 (Kd.R (Kd.int .i64) 3 wc w.heap.size (fun _ => True) v483 t481) ∧ Aside0 (Kd.S (Kd.slice 3 (Kd.int .i64)) 26 wc w.heap.size (fun k_ => some k_ ≠ (v483 : Value).ownBlock) v497 t495) ∧ Aside0 (Below w.heap.size w wc))
          case first =>
            have H := HC38.out
            clear HC38
            by_cases c42 : (t496 != t500) = true
            · rw [if_pos c42] at H
              have c42b0 : (t496 != t500) = true := c42
              (try (have c42b1 : decide (t496 = t500) = false := by simpa using c42))
              (try (have c42b2 : (t496 == t500) = false := by simpa using c42))
              (try (have c42b3 : ¬ (t496 = t500) := by simpa using c42))
              clear c42
              (first | rw [c42b0] | (simp only [i64_w, i32_w]; rw [c42b0]) | skip)
              have H' := Aside0.mk H
              clear H
              go_wp2
              go_meet
              case rel => exact ⟨_, (true), (by first | rfl | (simp; done) | (simp [*]; done)), H', ⟨by have := HJ9.out; first | omega | exact Nat.le_refl _⟩, ⟨by (with_reducible repeat (first | apply rA | apply rN | apply rD)); exact HO_7.out⟩, ⟨by (with_reducible repeat (first | apply Kd.S_alloc | apply Kd.S_drewN | apply Kd.S_drew)); exact Kd.S_mono HO498.out (fun _ hk => hk.1.2)⟩, ⟨by repeat (first | exact HB.out | apply bA | apply bN | apply bD)⟩⟩
            · rw [if_neg c42] at H
              have c42b0 : (t496 != t500) = false := by simpa using c42
              (try (have c42b1 : decide (t496 = t500) = true := by simpa using c42))
              (try (have c42b2 : (t496 == t500) = true := by simpa using c42))
              clear c42
              (first | rw [c42b0] | (simp only [i64_w, i32_w]; rw [c42b0]) | skip)
              replace H := Option.bind_eq_some_iff.mp H
              obtain ⟨t503, A430, H⟩ := H
              replace H : (laws_FnSystemsListed.j1 kj9 l0 l1 t479 t480 t481 t486 t494 t495 t496 (!t503)) = some r := H
              have A43 := Aside0.mk A430
              clear A430
              have H' := Aside0.mk H
              clear H
              obtain ⟨Ao44, co44, eo44⟩ := Kd.S_slice HO498.out
              subst eo44
              obtain ⟨Ao45, co45, eo45⟩ := Kd.S_slice HO502.out
              subst eo45
              go_wp2_with (first | (go_at_call 14; (with_reducible refine (laws_sSameRows.calls kj9 _ _ t495 _ _ t499 t503 _ ?side1 ?side2 ?side3 ?side4 A43.out).mono ?_); (case side1 => repeat (first | exact (Kd.S_reads' HO498.out).2.2 | (with_reducible refine Kd.C_alloc ?_ _) | (with_reducible refine Kd.C_drewN ?_ _) | (with_reducible refine Kd.C_drew ?_))); (case side2 => exact (Kd.S_reads' HO498.out).2.1); (case side3 => repeat (first | exact (Kd.S_reads' HO502.out).2.2 | (with_reducible refine Kd.C_alloc ?_ _) | (with_reducible refine Kd.C_drewN ?_ _) | (with_reducible refine Kd.C_drew ?_))); (case side4 => exact (Kd.S_reads' HO502.out).2.1); rintro e w' ⟨rfl, ⟨nd, rfl⟩⟩))
              go_meet
              case rel => exact ⟨_, (!t503), (by first | rfl | (simp; done) | (simp [*]; done)), H', ⟨by have := HJ9.out; first | omega | exact Nat.le_refl _⟩, ⟨by (with_reducible repeat (first | apply rA | apply rN | apply rD)); exact HO_7.out⟩, ⟨by (with_reducible repeat (first | apply Kd.S_alloc | apply Kd.S_drewN | apply Kd.S_drew)); exact Kd.S_mono HO498.out (fun _ hk => hk.1.2)⟩, ⟨by repeat (first | exact HB.out | apply bA | apply bN | apply bD)⟩⟩
          case rest =>
           rename_i K1_ a1_ K2_ a2_
           exact laws_FnSystemsListed.part1 k A0 c0 l0 A1 c1 l1 r w hr_ HR0 HC0 HR1 HC1 t479 t480 t481 t482 t486 t489 t490 t491 t492 v483 v487 nd kj9 HJ9 t494 t495 t496 t499 t500 HC38 v497 w41 v501 HO_7 HB wc u46 u47 u48 u49 u50 u51 u52 u53 u54 u55 u56 u57 u58 u59 u60 u61 u62 u63 u64 u65 u66 u67 u68 u69 u70 u71 u72 u73 u74 u75 u76 u77 u78 u79 u80 u81 u82 u83 u84 u85 u86 u87 u88 u89 u90 u91 u92 u93 u94 u95 u96 u97 u98 u99 u100 u101 u102 u103 u104 u105 u106 u107 u108 u109 u110 u111 u112 u113 u114 u115 u116 u117 u118 u119 u120 u121 u122 u123 u124 u125 u126 u127 u128 u129 u133 u134 u135 u136 u137 u138 u139 u140 u141 u142 u143 u144 u145 u146 u147 u148 u149 u150 u151 u152 u153 u154 u155 u156 u157 u158 u159 u160 u161 u162 u163 u164 u165 u166 u167 u168 u169 u170 u171 u172 u173 u174 u175 u176 u177 u178 u179 u180 u181 u182 u183 u184 u185 u186 u187 u188 u189 u190 u191 u192 u193 u194 u195 u196 u197 u198 u199 u200 u201 u202 u203 u204 u205 u206 u207 u208 u209 u210 u211 u212 u213 u214 u215 u216 u217 u218 u219 u220 u221 u222 u223 u224 u225 u226 u227 u228 u229 u230 u231 u232 u233 u234 u235 u236 u237 u238 u239 u240 u241 u242 u243 u244 u245 u246 u247 u248 u249 u250 u251 u252 u253 u254 u255 u256 u257 u258 u259 u260 u261 u262 u263 u264 u265 u266 u267 u268 u269 u270 u271 u272 u273 u274 u275 u276 u277 u278 u279 u280 u281 u282 u283 u284 u285 u286 K1_ a1_ K2_ a2_ hcut
/-- THE ONE PURE STATEMENT of laws_FnSystemsListed. -/
def laws_FnSystemsListed.Pure : Prop := ∀ (l0 : List Int) (l1 : List Int), l0.length ≤ maxLen → l0.length * 1 ≤ 140737488351232 → (∀ x ∈ l0, (Lit.int .u8 x).wf = true) → l1.length ≤ maxLen → l1.length * 1 ≤ 140737488351232 → (∀ x ∈ l1, (Lit.int .u8 x).wf = true) → ∃ k, laws_FnSystemsListed.f k l0 l1 = some true
set_option maxHeartbeats 8000000 in
set_option maxRecDepth 100000 in
theorem laws_FnSystemsListed.walk (P : laws_FnSystemsListed.Pure) (a0 : Option Addr) (len0 cap0 : Nat) (z0 : List Int) (a1 : Option Addr) (len1 cap1 : Nat) (z1 : List Int) (w : World) (w0 : (a0 = none ∧ len0 = 0 ∧ cap0 = 0 ∧ z0 = []) ∨ ∃ x, a0 = some x ∧ len0 ≤ cap0 ∧ cap0 ≤ maxLen ∧ z0.length = cap0 ∧ (∀ i, i < z0.length → w.cell? (x.add i) = some (.int .u8 (z0.getD i 0))) ∧ ∀ n ∈ z0, (Lit.int .u8 n).wf = true) (y0 : len0 * 1 ≤ 140737488351232) (w1 : (a1 = none ∧ len1 = 0 ∧ cap1 = 0 ∧ z1 = []) ∨ ∃ x, a1 = some x ∧ len1 ≤ cap1 ∧ cap1 ≤ maxLen ∧ z1.length = cap1 ∧ (∀ i, i < z1.length → w.cell? (x.add i) = some (.int .u8 (z1.getD i 0))) ∧ ∀ n ∈ z1, (Lit.int .u8 n).wf = true) (y1 : len1 * 1 ≤ 140737488351232) :
    Calls Try.prog 3 #[.slice a0 len0 cap0, .slice a1 len1 cap1] w fun e w' => e = .returned (.bool true) ∧ Below w.heap.size w w' := by
  obtain ⟨l0, rfl, hr0, hm0, hw0, hc0⟩ := ReadsInt.ofRowC w0
  obtain ⟨l1, rfl, hr1, hm1, hw1, hc1⟩ := ReadsInt.ofRowC w1
  obtain ⟨k, h⟩ := P l0 l1 hm0 y0 hw0 hm1 y1 hw1
  refine (laws_FnSystemsListed.calls k _ _ l0 _ _ l1 true w (Kd.C_of_reads (d := (0 : Int)) (h1 := fun _ => rfl) hr0) hc0 (Kd.C_of_reads (d := (0 : Int)) (h1 := fun _ => rfl) hr1) hc1 rfl h).mono ?_
  rintro e w' ⟨rfl, hd⟩
  exact ⟨rfl, hd⟩

end Go.Proofs.Ytpbadjdeghmenaa.QFnSystemsListed
