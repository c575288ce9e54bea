-- Written by wip/myprint.py (a program of mine round the kit's printer). Lean checks it.
import Derived.Test.YtlbaldejaapbiaaQFnExactStatesAfterx0
import Derived.Test.YtlbaldejaapbiaaQFnExactStatesAfterx7
import Derived.Test.YtlbaldejaapbiaaQFnExactStatesAfterx12
import Derived.Test.YtlbaldejaapbiaaQFnExactStatesAfterx13
namespace Go.Proofs.Ytlbaldejaapbiaa.QFnExactStatesAfter
open Go.RowKit Go.Proofs.YtlbaldejaapbiaaW.PrintWords Go.Proofs.YtlbaldejaapbiaaW.PrintLast Go.Proofs.YtlbaldejaapbiaaW.PrintMore
attribute [local go_sem] max2_int min2_int max_two min_two max_three min_three max_four min_four
set_option linter.unusedVariables false
set_option linter.unusedSimpArgs false
def laws_heldStateS.l0 : Nat → List (S27) → Int → Int → Option (Int)
 | 0, _, _, _ => none
 | k + 1, x0, x1, x5 => if x5 < (x0.length : Int) then (if 0 ≤ x5 then ((laws_heldIntS.f k ((rd_T27 x0 x5).f0) x1).bind fun t451 => (if t451 < 0 then (some (-1)) else ((laws_heldIntS.f k ((rd_T27 x0 x5).f1) t451).bind fun t453 => (if t453 < 0 then (some (-1)) else (if ((rd_T27 x0 x5).f2) = t453 then (laws_heldStateS.l0 k x0 (wrap64 (t453 + 1)) (wrap64 (x5 + 1))) else (some (-1))))))) else (none)) else (some x1)
def laws_heldStateS.f (k : Nat) (l0 : List (S27)) (a1 : Int) : Option (Int) := laws_heldStateS.l0 k l0 a1 0
theorem laws_heldStateS.mono_l : ∀ k, (∀ y0 y1 y2, LeO (laws_heldStateS.l0 k y0 y1 y2) (laws_heldStateS.l0 (k + 1) y0 y1 y2))
 | 0 => fun _ _ _ r h => by simp [laws_heldStateS.l0] at h
 | k + 1 => by
  have ih0 := laws_heldStateS.mono_l k
  ·intro y0 y1 y2
   unfold laws_heldStateS.l0
   repeat' first
    | (with_reducible first | exact ih0 _ _ _ | exact laws_heldIntS.mono _ _ _ | exact LeO.refl _ | exact LeO.none _ | refine LeO.ite ?_ ?_ | refine LeO.bind ?_ (fun _ => ?_))
    | exact LeO.none _
    | refine LeO.ite ?_ ?_
    | refine LeO.bind ?_ (fun _ => ?_)
theorem laws_heldStateS.mono : ∀ a0 a1 k, LeO (laws_heldStateS.f k a0 a1) (laws_heldStateS.f (k + 1) a0 a1) := by
 intro a0 a1 k
 have ih0 := laws_heldStateS.mono_l k
 unfold laws_heldStateS.f
 repeat' first
  | (with_reducible first | exact ih0 _ _ _ | exact laws_heldIntS.mono _ _ _ | exact LeO.refl _ | exact LeO.none _ | refine LeO.ite ?_ ?_ | refine LeO.bind ?_ (fun _ => ?_))
  | exact LeO.none _
  | refine LeO.ite ?_ ?_
  | refine LeO.bind ?_ (fun _ => ?_)
set_option maxHeartbeats 8000000 in
set_option maxRecDepth 100000 in
theorem laws_heldStateS.calls (k : Nat) (A0 : Option Addr) (c0 : Nat) (l0 : List (S27)) (a1 r : Int) (w : World) (hr0 : Kd.C k27 w A0 l0.length l0) (hc0 : l0.length ≤ c0) (h : laws_heldStateS.f k l0 a1 = some r) :
 Calls Try.prog 35 #[.slice A0 l0.length c0, .int .i64 a1] w fun e w' => e = .returned (.int .i64 r) ∧ Drawn0 w w' := by
 have HR0 := am hr0
 have HC0 := am hc0
 clear hr0 hc0
 have H : (laws_heldStateS.l0 k l0 a1 0) = some r := h
 clear h
 have H' := am H
 clear H
 go_enter Try.func35, Try.ntmps35
 go_wp2
 go_loopg [1, 5] k (fun kq v1 v5 w' => ∃ (x1_1 : Int) (x5_1 : Int), v1 = .int .i64 x1_1 ∧ v5 = .int .i64 x5_1 ∧ Aside0 (laws_heldStateS.l0 kq l0 x1_1 x5_1 = some r) ∧ Aside0 (kq ≤ k) ∧ Drawn0 w w')
 case atStart => exact ⟨(a1), (0), (by first | rfl | (simp; done) | (simp [*]; done)), (by first | rfl | (simp; done) | (simp [*]; done)), H', ⟨Nat.le_refl _⟩, by repeat (first | exact Drawn0.refl _ | apply Drawn0.step)⟩
 case round =>
  clear H'
  try clear p2
  obtain ⟨x1_1, x5_1, rfl, rfl, HA, HK1, ⟨m1, rfl⟩⟩ := hrel
  cases gk with
  | zero => exact absurd HA.out (by simp [laws_heldStateS.l0])
  | succ k1 =>
   have H := HA.out
   clear HA
   simp only [laws_heldStateS.l0] at H
   by_cases c3 : x5_1 < (l0.length : Int)
   ·rw [if_pos c3] at H
    have c3b0 : decide (x5_1 < (l0.length : Int)) = true := decide_eq_true c3
    clear c3
    by_cases c4 : 0 ≤ x5_1
    ·rw [if_pos c4] at H
     have c4b0 : decide (0 ≤ x5_1) = true := decide_eq_true c4
     clear c4
     replace H := Option.bind_eq_some_iff.mp H
     obtain ⟨t451, A50, H⟩ := H
     replace H : (if t451 < 0 then (some (-1)) else ((laws_heldIntS.f k1 ((rd_T27 l0 x5_1).f1) t451).bind fun t453 => (if t453 < 0 then (some (-1)) else (if ((rd_T27 l0 x5_1).f2) = t453 then (laws_heldStateS.l0 k1 l0 (wrap64 (t453 + 1)) (wrap64 (x5_1 + 1))) else (some (-1)))))) = some r := H
     have A5 := am A50
     clear A50
     by_cases c6 : t451 < 0
     ·rw [if_pos c6] at H
      have c6b0 : decide (t451 < 0) = true := decide_eq_true c6
      clear c6
      obtain rfl := Option.some.inj H
      have p450 : 0 ≤ (x5_1 : Int) := ofd (by assumption)
      have q450 : x5_1 < (l0.length : Int) := ofd (by assumption)
      obtain ⟨ad450, A450_0, c450_0, A450_1, c450_1, e450, hx450_0, hx450_1, hx450_2, hl450_0, hi450_0, hl450_1, hi450_1⟩ := at_T27 HR0.out x5_1 p450 q450
      cases e450
      have HR450_0 := am hi450_0
      have HC450_0 := am hl450_0
      clear hi450_0 hl450_0
      have HR450_1 := am hi450_1
      have HC450_1 := am hl450_1
      clear hi450_1 hl450_1
      replace p450 := eq_true p450
      replace q450 := eq_true q450
      go_wp2_with (first | ((with_reducible refine gate_callee (f := 50) rfl ?_); refine goesL_ (some 18) rfl rfl Try.func50 (by kernel_rfl) rfl #[.slice A450_0 ((rd_T27 l0 x5_1).f0).length c450_0, .int .i64 x1_1] rfl (by (try simp only [mT, mC, mZ]); first | done | rfl) ?_; (with_reducible refine (laws_heldIntS.calls k1 _ _ ((rd_T27 l0 x5_1).f0) x1_1 t451 _ ?side1 ?side2 A5.out).mono ?_); (case side1 => repeat (first | exact HR450_0.out | (with_reducible first | apply cA | apply cN | apply cD))); (case side2 => exact HC450_0.out); rintro e w' ⟨rfl, ⟨nd, rfl⟩⟩; refine ⟨_, rfl, ?_⟩))
      go_ret
      exact ⟨by first | rfl | (simp; done) | (simp [*]; done), by repeat (first | exact Drawn0.refl _ | apply Drawn0.step)⟩
     ·rw [if_neg c6] at H
      have c6b0 : decide (t451 < 0) = false := decide_eq_false c6
      clear c6
      replace H := Option.bind_eq_some_iff.mp H
      obtain ⟨t453, A70, H⟩ := H
      replace H : (if t453 < 0 then (some (-1)) else (if ((rd_T27 l0 x5_1).f2) = t453 then (laws_heldStateS.l0 k1 l0 (wrap64 (t453 + 1)) (wrap64 (x5_1 + 1))) else (some (-1)))) = some r := H
      have A7 := am A70
      clear A70
      by_cases c8 : t453 < 0
      ·rw [if_pos c8] at H
       have c8b0 : decide (t453 < 0) = true := decide_eq_true c8
       clear c8
       obtain rfl := Option.some.inj H
       have p450 : 0 ≤ (x5_1 : Int) := ofd (by assumption)
       have q450 : x5_1 < (l0.length : Int) := ofd (by assumption)
       obtain ⟨ad450, A450_0, c450_0, A450_1, c450_1, e450, hx450_0, hx450_1, hx450_2, hl450_0, hi450_0, hl450_1, hi450_1⟩ := at_T27 HR0.out x5_1 p450 q450
       cases e450
       have HR450_0 := am hi450_0
       have HC450_0 := am hl450_0
       clear hi450_0 hl450_0
       have HR450_1 := am hi450_1
       have HC450_1 := am hl450_1
       clear hi450_1 hl450_1
       replace p450 := eq_true p450
       replace q450 := eq_true q450
       go_wp2_with (first | ((with_reducible refine gate_callee (f := 50) rfl ?_); refine goesL_ (some 18) rfl rfl Try.func50 (by kernel_rfl) rfl #[.slice A450_0 ((rd_T27 l0 x5_1).f0).length c450_0, .int .i64 x1_1] rfl (by (try simp only [mT, mC, mZ]); first | done | rfl) ?_; (with_reducible refine (laws_heldIntS.calls k1 _ _ ((rd_T27 l0 x5_1).f0) x1_1 t451 _ ?side1 ?side2 A5.out).mono ?_); (case side1 => repeat (first | exact HR450_0.out | (with_reducible first | apply cA | apply cN | apply cD))); (case side2 => exact HC450_0.out); rintro e w' ⟨rfl, ⟨nd, rfl⟩⟩; refine ⟨_, rfl, ?_⟩; have p452 : 0 ≤ (x5_1 : Int) := ofd (by assumption); have q452 : x5_1 < (l0.length : Int) := ofd (by assumption); obtain ⟨ad452, A452_0, c452_0, A452_1, c452_1, e452, hx452_0, hx452_1, hx452_2, hl452_0, hi452_0, hl452_1, hi452_1⟩ := at_T27 HR0.out x5_1 p452 q452; obtain rfl : ad450 = ad452 := (by injection e452); have HR452_0 := am hi452_0; have HC452_0 := am hl452_0; clear hi452_0 hl452_0; have HR452_1 := am hi452_1; have HC452_1 := am hl452_1; clear hi452_1 hl452_1; replace p452 := eq_true p452; replace q452 := eq_true q452; have ea_ := Option.some.inj (hx450_0.symm.trans hx452_0); injection ea_ with ea_ en_ ec_; subst ea_; subst ec_; clear en_; have ea_ := Option.some.inj (hx450_1.symm.trans hx452_1); injection ea_ with ea_ en_ ec_; subst ea_; subst ec_; clear en_) | ((with_reducible refine gate_callee (f := 50) rfl ?_); refine goesL_ (some 27) rfl rfl Try.func50 (by kernel_rfl) rfl #[.slice A450_1 ((rd_T27 l0 x5_1).f1).length c450_1, .int .i64 t451] rfl (by (try simp only [mT, mC, mZ]); first | done | rfl) ?_; (with_reducible refine (laws_heldIntS.calls k1 _ _ ((rd_T27 l0 x5_1).f1) t451 t453 _ ?side1 ?side2 A7.out).mono ?_); (case side1 => repeat (first | exact HR452_1.out | (with_reducible first | apply cA | apply cN | apply cD))); (case side2 => exact HC452_1.out); rintro e w' ⟨rfl, ⟨nd, rfl⟩⟩; refine ⟨_, rfl, ?_⟩))
       go_ret
       exact ⟨by first | rfl | (simp; done) | (simp [*]; done), by repeat (first | exact Drawn0.refl _ | apply Drawn0.step)⟩
      ·rw [if_neg c8] at H
       have c8b0 : decide (t453 < 0) = false := decide_eq_false c8
       clear c8
       by_cases c9 : ((rd_T27 l0 x5_1).f2) = t453
       ·rw [if_pos c9] at H
        have c9b0 : (((rd_T27 l0 x5_1).f2) == t453) = true := beq_iff_eq.mpr c9
        have c9b1 : (((rd_T27 l0 x5_1).f2) != t453) = false := bne_eq_false_iff_eq.mpr c9
        clear c9
        have H' := am H
        clear H
        have p450 : 0 ≤ (x5_1 : Int) := ofd (by assumption)
        have q450 : x5_1 < (l0.length : Int) := ofd (by assumption)
        obtain ⟨ad450, A450_0, c450_0, A450_1, c450_1, e450, hx450_0, hx450_1, hx450_2, hl450_0, hi450_0, hl450_1, hi450_1⟩ := at_T27 HR0.out x5_1 p450 q450
        cases e450
        have HR450_0 := am hi450_0
        have HC450_0 := am hl450_0
        clear hi450_0 hl450_0
        have HR450_1 := am hi450_1
        have HC450_1 := am hl450_1
        clear hi450_1 hl450_1
        replace p450 := eq_true p450
        replace q450 := eq_true q450
        go_wp2_with (first | ((with_reducible refine gate_callee (f := 50) rfl ?_); refine goesL_ (some 18) rfl rfl Try.func50 (by kernel_rfl) rfl #[.slice A450_0 ((rd_T27 l0 x5_1).f0).length c450_0, .int .i64 x1_1] rfl (by (try simp only [mT, mC, mZ]); first | done | rfl) ?_; (with_reducible refine (laws_heldIntS.calls k1 _ _ ((rd_T27 l0 x5_1).f0) x1_1 t451 _ ?side1 ?side2 A5.out).mono ?_); (case side1 => repeat (first | exact HR450_0.out | (with_reducible first | apply cA | apply cN | apply cD))); (case side2 => exact HC450_0.out); rintro e w' ⟨rfl, ⟨nd, rfl⟩⟩; refine ⟨_, rfl, ?_⟩; have p452 : 0 ≤ (x5_1 : Int) := ofd (by assumption); have q452 : x5_1 < (l0.length : Int) := ofd (by assumption); obtain ⟨ad452, A452_0, c452_0, A452_1, c452_1, e452, hx452_0, hx452_1, hx452_2, hl452_0, hi452_0, hl452_1, hi452_1⟩ := at_T27 HR0.out x5_1 p452 q452; obtain rfl : ad450 = ad452 := (by injection e452); have HR452_0 := am hi452_0; have HC452_0 := am hl452_0; clear hi452_0 hl452_0; have HR452_1 := am hi452_1; have HC452_1 := am hl452_1; clear hi452_1 hl452_1; replace p452 := eq_true p452; replace q452 := eq_true q452; have ea_ := Option.some.inj (hx450_0.symm.trans hx452_0); injection ea_ with ea_ en_ ec_; subst ea_; subst ec_; clear en_; have ea_ := Option.some.inj (hx450_1.symm.trans hx452_1); injection ea_ with ea_ en_ ec_; subst ea_; subst ec_; clear en_) | ((with_reducible refine gate_callee (f := 50) rfl ?_); refine goesL_ (some 27) rfl rfl Try.func50 (by kernel_rfl) rfl #[.slice A450_1 ((rd_T27 l0 x5_1).f1).length c450_1, .int .i64 t451] rfl (by (try simp only [mT, mC, mZ]); first | done | rfl) ?_; (with_reducible refine (laws_heldIntS.calls k1 _ _ ((rd_T27 l0 x5_1).f1) t451 t453 _ ?side1 ?side2 A7.out).mono ?_); (case side1 => repeat (first | exact HR452_1.out | (with_reducible first | apply cA | apply cN | apply cD))); (case side2 => exact HC452_1.out); rintro e w' ⟨rfl, ⟨nd, rfl⟩⟩; refine ⟨_, rfl, ?_⟩; have p454 : 0 ≤ (x5_1 : Int) := ofd (by assumption); have q454 : x5_1 < (l0.length : Int) := ofd (by assumption); obtain ⟨ad454, A454_0, c454_0, A454_1, c454_1, e454, hx454_0, hx454_1, hx454_2, hl454_0, hi454_0, hl454_1, hi454_1⟩ := at_T27 HR0.out x5_1 p454 q454; obtain rfl : ad450 = ad454 := (by injection e454); have HR454_0 := am hi454_0; have HC454_0 := am hl454_0; clear hi454_0 hl454_0; have HR454_1 := am hi454_1; have HC454_1 := am hl454_1; clear hi454_1 hl454_1; replace p454 := eq_true p454; replace q454 := eq_true q454; have ea_ := Option.some.inj (hx450_0.symm.trans hx454_0); injection ea_ with ea_ en_ ec_; subst ea_; subst ec_; clear en_; have ea_ := Option.some.inj (hx450_1.symm.trans hx454_1); injection ea_ with ea_ en_ ec_; subst ea_; subst ec_; clear en_))
        go_roundg k1
        case measure => have := HK1.out; omega
        case rel => exact ⟨(wrap64 (t453 + 1)), (wrap64 (x5_1 + 1)), (by first | rfl | (simp; done) | (simp [*]; done)), (by first | rfl | (simp; done) | (simp [*]; done)), H', ⟨by have := HK1.out; omega⟩, by repeat (first | exact Drawn0.refl _ | apply Drawn0.step)⟩
       ·rw [if_neg c9] at H
        have c9b0 : (((rd_T27 l0 x5_1).f2) == t453) = false := beq_eq_false_iff_ne.mpr c9
        have c9b1 : (((rd_T27 l0 x5_1).f2) != t453) = true := bne_iff_ne.mpr c9
        obtain rfl := Option.some.inj H
        have p450 : 0 ≤ (x5_1 : Int) := ofd (by assumption)
        have q450 : x5_1 < (l0.length : Int) := ofd (by assumption)
        obtain ⟨ad450, A450_0, c450_0, A450_1, c450_1, e450, hx450_0, hx450_1, hx450_2, hl450_0, hi450_0, hl450_1, hi450_1⟩ := at_T27 HR0.out x5_1 p450 q450
        cases e450
        have HR450_0 := am hi450_0
        have HC450_0 := am hl450_0
        clear hi450_0 hl450_0
        have HR450_1 := am hi450_1
        have HC450_1 := am hl450_1
        clear hi450_1 hl450_1
        replace p450 := eq_true p450
        replace q450 := eq_true q450
        go_wp2_with (first | ((with_reducible refine gate_callee (f := 50) rfl ?_); refine goesL_ (some 18) rfl rfl Try.func50 (by kernel_rfl) rfl #[.slice A450_0 ((rd_T27 l0 x5_1).f0).length c450_0, .int .i64 x1_1] rfl (by (try simp only [mT, mC, mZ]); first | done | rfl) ?_; (with_reducible refine (laws_heldIntS.calls k1 _ _ ((rd_T27 l0 x5_1).f0) x1_1 t451 _ ?side1 ?side2 A5.out).mono ?_); (case side1 => repeat (first | exact HR450_0.out | (with_reducible first | apply cA | apply cN | apply cD))); (case side2 => exact HC450_0.out); rintro e w' ⟨rfl, ⟨nd, rfl⟩⟩; refine ⟨_, rfl, ?_⟩; have p452 : 0 ≤ (x5_1 : Int) := ofd (by assumption); have q452 : x5_1 < (l0.length : Int) := ofd (by assumption); obtain ⟨ad452, A452_0, c452_0, A452_1, c452_1, e452, hx452_0, hx452_1, hx452_2, hl452_0, hi452_0, hl452_1, hi452_1⟩ := at_T27 HR0.out x5_1 p452 q452; obtain rfl : ad450 = ad452 := (by injection e452); have HR452_0 := am hi452_0; have HC452_0 := am hl452_0; clear hi452_0 hl452_0; have HR452_1 := am hi452_1; have HC452_1 := am hl452_1; clear hi452_1 hl452_1; replace p452 := eq_true p452; replace q452 := eq_true q452; have ea_ := Option.some.inj (hx450_0.symm.trans hx452_0); injection ea_ with ea_ en_ ec_; subst ea_; subst ec_; clear en_; have ea_ := Option.some.inj (hx450_1.symm.trans hx452_1); injection ea_ with ea_ en_ ec_; subst ea_; subst ec_; clear en_) | ((with_reducible refine gate_callee (f := 50) rfl ?_); refine goesL_ (some 27) rfl rfl Try.func50 (by kernel_rfl) rfl #[.slice A450_1 ((rd_T27 l0 x5_1).f1).length c450_1, .int .i64 t451] rfl (by (try simp only [mT, mC, mZ]); first | done | rfl) ?_; (with_reducible refine (laws_heldIntS.calls k1 _ _ ((rd_T27 l0 x5_1).f1) t451 t453 _ ?side1 ?side2 A7.out).mono ?_); (case side1 => repeat (first | exact HR452_1.out | (with_reducible first | apply cA | apply cN | apply cD))); (case side2 => exact HC452_1.out); rintro e w' ⟨rfl, ⟨nd, rfl⟩⟩; refine ⟨_, rfl, ?_⟩; have p454 : 0 ≤ (x5_1 : Int) := ofd (by assumption); have q454 : x5_1 < (l0.length : Int) := ofd (by assumption); obtain ⟨ad454, A454_0, c454_0, A454_1, c454_1, e454, hx454_0, hx454_1, hx454_2, hl454_0, hi454_0, hl454_1, hi454_1⟩ := at_T27 HR0.out x5_1 p454 q454; obtain rfl : ad450 = ad454 := (by injection e454); have HR454_0 := am hi454_0; have HC454_0 := am hl454_0; clear hi454_0 hl454_0; have HR454_1 := am hi454_1; have HC454_1 := am hl454_1; clear hi454_1 hl454_1; replace p454 := eq_true p454; replace q454 := eq_true q454; have ea_ := Option.some.inj (hx450_0.symm.trans hx454_0); injection ea_ with ea_ en_ ec_; subst ea_; subst ec_; clear en_; have ea_ := Option.some.inj (hx450_1.symm.trans hx454_1); injection ea_ with ea_ en_ ec_; subst ea_; subst ec_; clear en_))
        go_ret
        exact ⟨by first | rfl | (simp; done) | (simp [*]; done), by repeat (first | exact Drawn0.refl _ | apply Drawn0.step)⟩
    ·rw [if_neg c4] at H
     exact absurd H (by simp)
   ·rw [if_neg c3] at H
    have c3b0 : decide (x5_1 < (l0.length : Int)) = false := decide_eq_false c3
    clear c3
    obtain rfl := Option.some.inj H
    go_wp2
    go_ret
    exact ⟨by first | rfl | (simp; done) | (simp [*]; done), by repeat (first | exact Drawn0.refl _ | apply Drawn0.step)⟩
def laws_markStateS.l0 : Nat → List S27 → Int → Int → Option (Int × List S27)
 | 0, _, _, _ => none
 | k + 1, xs, a, i => if i < (xs.length : Int) then (if 0 ≤ i then ((laws_markIntS.f k (rd_T27 xs i).f0 a).bind fun t => ((laws_markIntS.f k (rd_T27 xs i).f1 t.1).bind fun s => laws_markStateS.l0 k (xs.set i.toNat ⟨t.2, s.2, s.1⟩) (wrap64 (s.1 + 1)) (wrap64 (i + 1)))) else none) else (some (a, xs))
def laws_markStateS.f (k : Nat) (l0 : List S27) (a1 : Int) : Option (Int × List S27) := laws_markStateS.l0 k l0 a1 0
set_option maxHeartbeats 8000000 in
set_option maxRecDepth 100000 in
theorem laws_markStateS.calls (k : Nat) (v : Value) (g : List (S27 × Value × Value)) (a1 r1 : Int) (r2 : List S27) (w0 w : World) (hB : Below w0.heap.size w0 w) (hG : GLs w0.heap.size w w0.heap.size v g) (ha : ApartV (flatG g)) (h : laws_markStateS.f k (g.map Prod.fst) a1 = some (r1, r2)) :
 Calls Try.prog 34 #[v, .int .i64 a1] w fun e w' => ∃ g' : List (S27 × Value × Value), e = .returned (.int .i64 r1) ∧ g'.map Prod.fst = r2 ∧ flatG g' = flatG g ∧ GLs w0.heap.size w' w0.heap.size v g' ∧ Below w0.heap.size w0 w' ∧ Kept w w' (BlkV v g) := by
 have H' := am (show laws_markStateS.l0 k (g.map Prod.fst) a1 0 = some (r1, r2) from h)
 clear h
 obtain ⟨A0, c0, hv, _, _⟩ := hG.reads
 rw [List.length_map] at hv
 subst hv
 have HG0 := am hG
 have HA0 := am ha
 have HB0 := am hB
 have HK0 := am (Kept.refl w (BlkV (.slice A0 g.length c0) g))
 clear hG hB ha
 go_enter Try.func34, Try.ntmps34
 go_wp2
 go_loopg [1, 5] k (fun kq v1 v5 w' => ∃ (g1 : List (S27 × Value × Value)) (x1_1 : Int) (x5_1 : Int), v1 = .int .i64 x1_1 ∧ v5 = .int .i64 x5_1 ∧ Aside0 (laws_markStateS.l0 kq (g1.map Prod.fst) x1_1 x5_1 = some (r1, r2)) ∧ Aside0 (kq ≤ k) ∧ Aside0 (g1.length = g.length) ∧ Aside0 (flatG g1 = flatG g) ∧ Aside0 (GLs w0.heap.size w' w0.heap.size (.slice A0 g.length c0) g1) ∧ Aside0 (Below w0.heap.size w0 w') ∧ Aside0 (Kept w w' (BlkV (.slice A0 g.length c0) g)))
 case atStart => exact ⟨g, a1, 0, (by first | rfl | (simp; done) | (simp [*]; done)), (by first | rfl | (simp; done) | (simp [*]; done)), H', ⟨Nat.le_refl _⟩, ⟨rfl⟩, ⟨rfl⟩, HG0, HB0, HK0⟩
 case round =>
  clear H' HG0 HB0 HK0
  obtain ⟨g1, x1_1, x5_1, rfl, rfl, HA, HK1, HLEN, HFL, HG, HB, HK⟩ := hrel
  cases gk with
  | zero => exact absurd HA.out (by simp [laws_markStateS.l0])
  | succ k1 =>
   have H := HA.out
   clear HA
   simp only [laws_markStateS.l0] at H
   rw [List.length_map, HLEN.out] at H
   by_cases c3 : x5_1 < (g.length : Int)
   ·rw [if_pos c3] at H
    have c3b0 : decide (x5_1 < (g.length : Int)) = true := decide_eq_true c3
    by_cases c4 : 0 ≤ x5_1
    ·rw [if_pos c4] at H
     have c4b0 : decide (0 ≤ x5_1) = true := decide_eq_true c4
     replace H := Option.bind_eq_some_iff.mp H
     obtain ⟨⟨t1, t2⟩, A50, H⟩ := H
     replace H := Option.bind_eq_some_iff.mp H
     obtain ⟨⟨s1, s2⟩, A60, H⟩ := H
     have hil : x5_1.toNat < g1.length := by have := HLEN.out; omega
     obtain ⟨x, hx⟩ : ∃ x, g1[x5_1.toNat]? = some x := ⟨_, List.getElem?_eq_getElem hil⟩
     have hrd : rd_T27 (g1.map Prod.fst) x5_1 = x.1 := by
      unfold rd_T27
      rw [List.getD_eq_getElem?_getD, List.getElem?_map, hx]; rfl
     rw [hrd] at A50 A60
     simp only at A60 H
     have A5 := am A50
     have A6 := am A60
     have H' := am H
     clear A50 A60 H
     obtain ⟨hE1, hE2⟩ := HG.out.els x (List.mem_of_getElem? hx)
     have HX := am hx
     have ha1 : ApartV (flatG g1) := by rw [HFL.out]; exact HA0.out
     have HA1 := am ha1
     obtain ⟨E0, d0, e0⟩ := Kd.R_slice hE1
     obtain ⟨E1, d1, e1⟩ := Kd.R_slice hE2
     have HE1 := am e0
     have HE2 := am e1
     have HR1 := am hE1
     obtain ⟨ad, hA0⟩ : ∃ ad, A0 = some ad := by
      obtain ⟨g9, cap9, he9, _⟩ := Kd.N_form HG.out.to_N (by have := HLEN.out; omega)
      injection he9 with he9
      exact ⟨_, he9⟩
     subst hA0
     obtain ⟨hc0, hc1, hc2⟩ := HG.out.at x5_1 c4 c3 x hx
     rw [e0] at hc0
     have p224 : (0 ≤ (x5_1 : Int)) = True := eq_true c4
     have q224 : (x5_1 < (g.length : Int)) = True := eq_true c3
     have HC4 := am c4
     have HC3 := am c3
     clear c3 c4 ha1 hil hrd hE1 hE2 e0 e1 hx hc1 hc2
     have HX1 := am (laws_markIntS.calls k1 (fun k_ => some k_ = (x.2.1 : Value).ownBlock) x.2.1 x.1.f0 x1_1 t1 t2 w0 _ HB.out (Kd.R_tight rfl HR1.out) A5.out)
     rw [HE1.out] at HX1
     go_wp2_with (first | ((with_reducible refine gate_callee (f := 49) rfl ?_); refine goesL_ (some 18) rfl rfl Try.func49 (by kernel_rfl) rfl #[.slice E0 x.1.f0.length d0, .int .i64 x1_1] rfl (by (try simp only [mT, mC, mZ]); first | done | rfl) ?_; (refine HX1.out.mono ?_); rintro e w2 ⟨rfl, ho, hb, hk⟩; refine ⟨_, rfl, ?_⟩; have HK2 := am hk; have HG2 := am (HG.out.set0 HA1.out x5_1.toNat x HX.out (fun k hlt_ hne => HK2.out.2 k hlt_ (fun e => hne (by rw [HE1.out]; exact e))) (by rw [HE1.out]; exact ho) (Nat.le_refl _)); have HB2 := am hb; clear ho hb hk; have hx2_ : (g1.set x5_1.toNat ((⟨t2, x.1.f1, x.1.f2⟩ : S27), x.2.1, x.2.2))[x5_1.toNat]? = some ((⟨t2, x.1.f1, x.1.f2⟩ : S27), x.2.1, x.2.2) := List.getElem?_set_self (by have := HLEN.out; have := HC3.out; have := HC4.out; omega); obtain ⟨hd0, hd1, hd2⟩ := HG2.out.at x5_1 HC4.out HC3.out _ hx2_; (rw [show (((⟨t2, x.1.f1, x.1.f2⟩ : S27), x.2.1, x.2.2) : S27 × Value × Value).2.2 = x.2.2 from rfl, HE2.out] at hd1); have hr2_ := (HG2.out.els _ (List.mem_of_getElem? hx2_)).2; have HX2 := am (laws_markIntS.calls k1 (fun k_ => some k_ = (x.2.2 : Value).ownBlock) x.2.2 x.1.f1 t1 s1 s2 w0 _ HB2.out (Kd.R_tight rfl hr2_) A6.out); (rw [HE2.out] at HX2); clear hx2_ hr2_ hd0 hd2 hc0) | ((with_reducible refine gate_callee (f := 49) rfl ?_); refine goesL_ (some 25) rfl rfl Try.func49 (by kernel_rfl) rfl #[.slice E1 x.1.f1.length d1, .int .i64 t1] rfl (by (try simp only [mT, mC, mZ]); first | done | rfl) ?_; (refine HX2.out.mono ?_); rintro e w3 ⟨rfl, ho, hb, hk⟩; refine ⟨_, rfl, ?_⟩; have HK3 := am hk; have HB3 := am hb; have hX2 : (g1.set x5_1.toNat ((⟨t2, x.1.f1, x.1.f2⟩ : S27), x.2.1, x.2.2))[x5_1.toNat]? = some ((⟨t2, x.1.f1, x.1.f2⟩ : S27), x.2.1, x.2.2) := List.getElem?_set_self (by have := HLEN.out; have := HC3.out; have := HC4.out; omega); have hfl : flatG (g1.set x5_1.toNat ((⟨t2, x.1.f1, x.1.f2⟩ : S27), x.2.1, x.2.2)) = flatG g1 := flatG_set g1 _ _ x HX.out; have HG3 := am (HG2.out.set1 (by rw [hfl]; exact HA1.out) x5_1.toNat _ hX2 (fun k hk_ hne => HK3.out.2 k hk_ (fun e => hne (by rw [HE2.out]; exact e))) (by rw [HE2.out]; exact ho) (Nat.le_refl _)); have hX3 : ((g1.set x5_1.toNat ((⟨t2, x.1.f1, x.1.f2⟩ : S27), x.2.1, x.2.2)).set x5_1.toNat ((⟨t2, s2, x.1.f2⟩ : S27), x.2.1, x.2.2))[x5_1.toNat]? = some ((⟨t2, s2, x.1.f2⟩ : S27), x.2.1, x.2.2) := List.getElem?_set_self (by have := HLEN.out; have := HC3.out; have := HC4.out; rw [List.length_set]; omega); have HX3 := am hX3; obtain ⟨_, _, hf2⟩ := HG3.out.at x5_1 HC4.out HC3.out _ hX3; have hz2 := HG3.out.fz (by rw [List.length_set, List.length_set]; have := HLEN.out; have := HC3.out; have := HC4.out; omega) (x5_1.toNat * 3); have HFL2 := am hfl; clear ho hb hk hX2 hX3 hfl hd1))
     go_roundg k1
     case measure => have := HK1.out; omega
     case rel =>
      have hln : x5_1.toNat < g1.length := by have := HLEN.out; have := HC3.out; have := HC4.out; omega
      have hfl2 := flatG_set (g1.set x5_1.toNat ((⟨t2, x.1.f1, x.1.f2⟩ : S27), x.2.1, x.2.2)) x5_1.toNat ⟨t2, s2, x.1.f2⟩ _ (List.getElem?_set_self hln)
      have hfl3 := flatG_set ((g1.set x5_1.toNat ((⟨t2, x.1.f1, x.1.f2⟩ : S27), x.2.1, x.2.2)).set x5_1.toNat ((⟨t2, s2, x.1.f2⟩ : S27), x.2.1, x.2.2)) x5_1.toNat ⟨t2, s2, s1⟩ _ HX3.out
      have hb1 : x.2.1 ∈ flatG g := by rw [← HFL.out]; exact List.mem_flatMap.2 ⟨x, List.mem_of_getElem? HX.out, by simp⟩
      have hb2 : x.2.2 ∈ flatG g := by rw [← HFL.out]; exact List.mem_flatMap.2 ⟨x, List.mem_of_getElem? HX.out, by simp⟩
      refine ⟨((g1.set x5_1.toNat ((⟨t2, x.1.f1, x.1.f2⟩ : S27), x.2.1, x.2.2)).set x5_1.toNat ((⟨t2, s2, x.1.f2⟩ : S27), x.2.1, x.2.2)).set x5_1.toNat ((⟨t2, s2, s1⟩ : S27), x.2.1, x.2.2), (wrap64 (s1 + 1)), (wrap64 (x5_1 + 1)), (by first | rfl | (simp; done) | (simp [*]; done)), (by first | rfl | (simp; done) | (simp [*]; done)), ?_, ⟨by have := HK1.out; omega⟩, ⟨by rw [List.length_set, List.length_set, List.length_set]; exact HLEN.out⟩, ⟨by rw [hfl3, hfl2, HFL2.out, HFL.out]⟩, ⟨?_⟩, ⟨?_⟩, ⟨?_, fun i hi hn => ?_⟩⟩
      ·have h_ := H'.out
       rw [List.map_set, List.map_set, List.map_set, List.set_set, List.set_set]
       exact ⟨h_⟩
      ·exact HG3.out.put x5_1.toNat _ HX3.out s1
      ·exact HG3.out.put_below (base := 0) (by rw [List.length_set, List.length_set]; omega) HB3.out (x5_1.toNat * 3) _
      ·have h_ := Nat.le_trans HK.out.1 (Nat.le_trans HK2.out.1 HK3.out.1)
       simpa using h_
      ·have hlt1 := Nat.lt_of_lt_of_le hi HK.out.1
       have hne : i ≠ (ad.add (x5_1.toNat * 3)).block := by
        obtain ⟨gb, cur, had, _, _⟩ := HG3.out.head (by rw [List.length_set, List.length_set]; omega)
        intro e
        exact hn (.inr (by rw [e, had, GLs.ad_add]; rfl))
       rw [Below.heap_setCell _ ⟨(ad.add (x5_1.toNat * 3)).block, (ad.add (x5_1.toNat * 3)).off + 2, none⟩ _ i hne, HK3.out.2 i (Nat.lt_of_lt_of_le hlt1 HK2.out.1) (fun e => hn (.inl ⟨_, hb2, by rw [HE2.out]; exact e.symm⟩)), HK2.out.2 i hlt1 (fun e => hn (.inl ⟨_, hb1, by rw [HE1.out]; exact e.symm⟩)), HK.out.2 i hi hn]
    ·rw [if_neg c4] at H
     exact absurd H (by simp)
   ·rw [if_neg c3] at H
    have c3b0 : decide (x5_1 < (g.length : Int)) = false := decide_eq_false c3
    clear c3
    simp only [Option.some.injEq, Prod.mk.injEq] at H
    obtain ⟨h1, h2⟩ := H
    subst h1
    go_wp2
    go_ret
    exact ⟨g1, rfl, h2, HFL.out, HG.out, HB.out, HK.out⟩
def laws_FnExactStatesAfter.Pure : Prop := ∀ (a0 : Int), (Lit.int .i64 a0).wf = true → ∃ (k : Nat) (r r' : List S27) (b : Bool) (m : Int), spec_StatesAfter.f k a0 = some (r, b) ∧ impl_StatesAfter.f k a0 = some (r, b) ∧ laws_eqStateS.f k r r = some true ∧ laws_markStateS.f k r 1 = some (m, r') ∧ laws_heldStateS.f k r' 1 = some m ∧ 0 ≤ m
set_option maxHeartbeats 8000000 in
set_option maxRecDepth 100000 in
theorem laws_FnExactStatesAfter.walk (P : laws_FnExactStatesAfter.Pure) (a0 : Int) (w : World) (w0 : (Lit.int .i64 a0).wf = true) :
 Calls Try.prog 9 #[.int .i64 a0] w fun e w' => e = .returned (.bool true) ∧ Below w.heap.size w w' := by
 obtain ⟨k, r, r', b, m, h1, h2, h3, h4, h5, h6⟩ := P a0 w0
 have A1 := am h1
 have A2 := am h2
 have A3 := am h3
 have A4 := am h4
 have A5 := am h5
 have m1 : decide (m < 0) = false := decide_eq_false (by omega)
 clear h1 h2 h3 h4 h5 h6
 have HB := am (Below.refl w.heap.size w)
 go_enter Try.func9, Try.ntmps9
 go_upto_region 3 with (first | ((with_reducible refine gate_callee (f := 31) rfl ?_); refine goesL_ (some 13) rfl rfl Try.func31 (by kernel_rfl) rfl #[.int .i64 a0] rfl (by (try simp only [mT, mC, mZ]); first | done | rfl) ?_; (refine (spec_StatesAfter.calls k a0 r b _ A1.out).mono ?_); rintro e w5 ⟨v3, rfl, ho, hb⟩; refine ⟨_, rfl, ?_⟩; have HW := am (Kd.N_mono (ok' := fun k_ => k_ < w5.heap.size) (Kd.N_bound ho) (fun k_ hk_ => hk_.2)); have n1_ := am (below_step HB.out hb); clear HB; have HB := n1_; clear n1_ ho hb) | ((with_reducible refine gate_callee (f := 32) rfl ?_); refine goesL_ (some 18) rfl rfl Try.func32 (by kernel_rfl) rfl #[.int .i64 a0] rfl (by (try simp only [mT, mC, mZ]); first | done | rfl) ?_; (refine (impl_StatesAfter.calls k a0 r b _ A2.out).mono ?_); rintro e w6 ⟨v5, gg, rfl, hgm, hga, ho, hgb, hb⟩; refine ⟨_, rfl, ?_⟩; have HGM := am hgm; have HGA := am hga; have HGB := am hgb; have HG := am (ho.lower (below_size HB.out) (below_size HB.out)); have HGV := am (Kd.R_base ho.row); have n1_ := am (below_step HB.out hb); have n2_ := am (Kd.N_below HW.out hb); clear HB HW; have HB := n1_; have HW := n2_; clear n1_ n2_ ho hb hgm hga hgb))
 (try simp only [Act.put, sI, s0_, s1_])
 obtain ⟨A5_, c5_, e5_, l5_, r5_⟩ := HG.out.reads
 rw [HGM.out] at e5_ l5_ r5_
 subst e5_
 have HG5 := am l5_
 have HG6 := am r5_
 clear l5_ r5_
 obtain ⟨A3_, c3_, e3_⟩ := Kd.N_slice HW.out
 subst e3_
 go_upto_region 6 with (first | ((with_reducible refine gate_callee (f := 33) rfl ?_); refine goesL_ (some 23) rfl rfl Try.func33 (by kernel_rfl) rfl #[.slice A5_ r.length c5_, .slice A3_ r.length c3_] rfl (by (try simp only [mT, mC, mZ]); first | done | rfl) ?_; (refine (laws_eqStateS.calls k _ _ r _ _ r true _ HG6.out HG5.out (Kd.N_reads' HW.out).2.2 (Kd.N_reads' HW.out).2.1 A3.out).mono ?_); rintro e w7 ⟨rfl, hb⟩; refine ⟨_, rfl, ?_⟩; have n1_ := am (below_step HB.out hb); have n2_ := am (Kd.N_below HW.out hb); have n3_ := am (HG.out.below hb); clear HB HW HG HG5 HG6; have HB := n1_; have HW := n2_; have HG := n3_; clear n1_ n2_ n3_ hb))
 (try simp only [Act.put, sI, s0_, s1_])
 go_upto_region 8 with (first | ((with_reducible refine gate_callee (f := 34) rfl ?_); refine goesL_ (some 32) rfl rfl Try.func34 (by kernel_rfl) rfl #[.slice A5_ r.length c5_, .int .i64 1] rfl (by (try simp only [mT, mC, mZ]); first | done | rfl) ?_; (refine (laws_markStateS.calls k _ gg 1 m r' w _ HB.out HG.out HGA.out (by rw [HGM.out]; exact A4.out)).mono ?_); rintro e w8 ⟨g2, rfl, hgm2, hfl, ho, hb, hk⟩; refine ⟨_, rfl, ?_⟩; have HGM2 := am hgm2; have HFL := am hfl; have n1_ := am ho; have n2_ := am (Kd.N_step HW.out (fun k_ hk_ hlt_ => hk.2 k_ hlt_ (fun hb_ => by rcases hb_ with ⟨u, hu, hu2⟩ | hv_; exact (by have := HGB.out u hu k_ hu2; omega); exact (by have := HGV.out k_ hv_; omega)))); have n3_ := am hb; clear HG HW HB; have HG := n1_; have HW := n2_; have HB := n3_; clear n1_ n2_ n3_ ho hb hk hgm2 hfl))
 (try simp only [Act.put, sI, s0_, s1_])
 have hln : r'.length = r.length := by
  obtain ⟨A_, c_, e_, _, _⟩ := HG.out.reads
  injection e_ with _ e2 _
  rw [HGM2.out] at e2
  exact e2.symm
 have HLN := am hln
 clear hln
 have HH := am (fun (W : World) (hg : GLs w.heap.size W w.heap.size (.slice A5_ r.length c5_) g2) => (show Calls Try.prog 35 #[.slice A5_ r.length c5_, .int .i64 1] W fun e w' => e = .returned (.int .i64 m) ∧ Drawn0 W w' from by
  obtain ⟨A_, c_, e_, l_, r_⟩ := hg.reads
  rw [HGM2.out] at e_ l_ r_
  injection e_ with e1 e2 e3
  subst e1
  subst e3
  have h_ := laws_heldStateS.calls k A5_ c5_ r' 1 m W r_ l_ A5.out
  rw [HLN.out] at h_
  exact h_))
 go_upto_region 13 with (first | ((with_reducible refine gate_callee (f := 35) rfl ?_); refine goesL_ (some 35) rfl rfl Try.func35 (by kernel_rfl) rfl #[.slice A5_ r.length c5_, .int .i64 1] rfl (by (try simp only [mT, mC, mZ]); first | done | rfl) ?_; (refine (HH.out _ HG.out).mono ?_); rintro e w' ⟨rfl, ⟨nd2, rfl⟩⟩; refine ⟨_, rfl, ?_⟩))
 (try simp only [Act.put, sI, s0_, s1_])
 go_upto_region 14 with (first | ((with_reducible refine gate_callee (f := 32) rfl ?_); refine goesL_ (some 43) rfl rfl Try.func32 (by kernel_rfl) rfl #[.int .i64 a0] rfl (by (try simp only [mT, mC, mZ]); first | done | rfl) ?_; (refine (impl_StatesAfter.calls k a0 r b _ A2.out).mono ?_); rintro e w9 ⟨v9, g9, rfl, hgm9, hga9, ho, hgb9, hb⟩; refine ⟨_, rfl, ?_⟩; have HGM9 := am hgm9; have n1_ := am ((HG.out.below (pw_below_drewN (Below.refl _ _) nd2)).below hb); have n2_ := am (Kd.N_below (nN HW.out nd2) hb); have n3_ := am (below_step (pw_below_drewN HB.out nd2) hb); have HN := am ho; clear HG HW HB; have HG := n1_; have HW := n2_; have HB := n3_; clear n1_ n2_ n3_ ho hb hgm9 hga9 hgb9))
 (try simp only [Act.put, sI, s0_, s1_])
 obtain ⟨A9_, c9_, e9_, l9_, r9_⟩ := HN.out.reads
 rw [HGM9.out] at e9_ l9_ r9_
 subst e9_
 have HG5 := am l9_
 have HG6 := am r9_
 clear l9_ r9_
 go_upto_region 17 with (first | ((with_reducible refine gate_callee (f := 33) rfl ?_); refine goesL_ (some 48) rfl rfl Try.func33 (by kernel_rfl) rfl #[.slice A9_ r.length c9_, .slice A3_ r.length c3_] rfl (by (try simp only [mT, mC, mZ]); first | done | rfl) ?_; (refine (laws_eqStateS.calls k _ _ r _ _ r true _ HG6.out HG5.out (Kd.N_reads' HW.out).2.2 (Kd.N_reads' HW.out).2.1 A3.out).mono ?_); rintro e w10 ⟨rfl, hb⟩; refine ⟨_, rfl, ?_⟩; have n1_ := am (below_step HB.out hb); have n3_ := am (HG.out.below hb); clear HB HG; have HB := n1_; have HG := n3_; clear n1_ n3_ hb))
 (try simp only [Act.put, sI, s0_, s1_])
 go_wp2_with (first | ((with_reducible refine gate_callee (f := 35) rfl ?_); refine goesL_ (some 57) rfl rfl Try.func35 (by kernel_rfl) rfl #[.slice A5_ r.length c5_, .int .i64 1] rfl (by (try simp only [mT, mC, mZ]); first | done | rfl) ?_; (refine (HH.out _ HG.out).mono ?_); rintro e w' ⟨rfl, ⟨nd4, rfl⟩⟩; refine ⟨_, rfl, ?_⟩))
 go_ret
 exact ⟨rfl, by repeat (with_reducible first | exact HB.out | apply bA | apply bN | apply bD)⟩
end Go.Proofs.Ytlbaldejaapbiaa.QFnExactStatesAfter
