-- Written by wip/myprint.py (a program of mine round the kit's printer). Lean checks it.
import Derived.Test.YtfencncopkeobaaQFnPairsMovedx0
import Derived.Test.YtfencncopkeobaaQFnPairsMovedx2
import Derived.Test.YtfencncopkeobaaQFnPairsMovedx5
namespace Go.Proofs.Ytfencncopkeobaa.QFnPairsMoved
open Go.RowKit Go.Proofs.YtfencncopkeobaaW.PrintWords Go.Proofs.YtfencncopkeobaaW.PrintLast Go.Proofs.YtfencncopkeobaaW.PrintMore
attribute [local go_sem] max2_int min2_int max_two min_two max_three min_three max_four min_four
set_option linter.unusedVariables false
set_option linter.unusedSimpArgs false
set_option maxHeartbeats 8000000
set_option maxRecDepth 100000
def spec_ahShift.l0 : Nat → Int → List Int → List Int → Int → Int → Option (List Int)
 | 0, _, _, _, _, _ => none
 | k + 1, x1, x5, x8, x9, x10 => if x10 < x9 then (if 0 ≤ x10 then (if x10 < (x8.length : Int) then (if x5.length < 17592186044416 then (spec_ahShift.l0 k x1 (x5 ++ [wrap64 ((rd x8 x10) + x1)]) x8 x9 (wrap64 (x10 + 1))) else (none)) else (none)) else (none)) else (some x5)
def spec_ahShift.f (k : Nat) (l0 : List Int) (a1 : Int) : Option (List Int) := spec_ahShift.l0 k a1 ([] : List Int) l0 (l0.length : Int) 0
theorem spec_ahShift.calls (k : Nat) (A0 : Option Addr) (c0 : Nat) (l0 : List Int) (a1 : Int) (r : List Int) (w : World) (hr0 : Kd.C (Kd.int .i64) w A0 l0.length l0) (hc0 : l0.length ≤ c0) (h : spec_ahShift.f k l0 a1 = some r) :
 Calls Try.prog 84 #[.slice A0 l0.length c0, .int .i64 a1] w fun e w' => ∃ v0_ : Value, e = .returned (v0_) ∧ Kd.R (Kd.int .i64) 3 w' w.heap.size (fun _ => True) v0_ r ∧ Below w.heap.size w w' := by
 have HR0 := am hr0
 have HC0 := am hc0
 clear hr0 hc0
 have HB := am (Below.refl w.heap.size w)
 have H : (spec_ahShift.l0 k a1 ([] : List Int) l0 (l0.length : Int) 0) = some r := h
 clear h
 have H' := am H
 clear H
 go_enter Try.func84, Try.ntmps84
 go_wp2
 go_loopg [5, 10] k (fun kq v5 v10 w' => ∃ (x5_1 : List Int) (x10_1 : Int), v10 = .int .i64 x10_1 ∧ Aside0 (spec_ahShift.l0 kq a1 x5_1 l0 (l0.length : Int) x10_1 = some r) ∧ Aside0 (kq ≤ k) ∧ Aside0 (Kd.R (Kd.int .i64) 3 w' w.heap.size (fun _ => True) v5 x5_1) ∧ Aside0 (Below w.heap.size w w'))
 case atStart => exact ⟨(([] : List Int)), (0), (by first | rfl | (simp; done) | (simp [*]; done)), H', ⟨Nat.le_refl _⟩, ⟨by first | exact Kd.R_nil _ _ _ _ _ | exact Kd.N_nil _ _ _ _ _ | exact Kd.V_nil _ _ _ _ _ | exact Kd.Q_nil _ _ _ _ _ | exact Kd.S_nil _ _ _ _ _⟩, ⟨by repeat (with_reducible first | exact HB.out | apply bA | apply bN | apply bD)⟩⟩
 case round =>
  clear H'
  try clear p2
  obtain ⟨x5_1, x10_1, rfl, HA, HK1, HO_5, HB⟩ := hrel
  cases gk with
  | zero => exact absurd HA.out (by simp [spec_ahShift.l0])
  | succ k1 =>
   have H := HA.out
   clear HA
   simp only [spec_ahShift.l0] at H
   by_cases c3 : x10_1 < (l0.length : Int)
   ·rw [if_pos c3] at H
    have c3b0 : decide (x10_1 < (l0.length : Int)) = true := decide_eq_true c3
    clear c3
    by_cases c4 : 0 ≤ x10_1
    ·rw [if_pos c4] at H
     have c4b0 : decide (0 ≤ x10_1) = true := decide_eq_true c4
     clear c4
     by_cases c5 : x10_1 < (l0.length : Int)
     ·rw [if_pos c5] at H
      have c5b0 : decide (x10_1 < (l0.length : Int)) = true := decide_eq_true c5
      clear c5
      by_cases c6 : x5_1.length < 17592186044416
      ·rw [if_pos c6] at H
       have LMc6 := am c6
       clear c6
       obtain ⟨y437, hy437⟩ : ∃ y_ : List Int, y_ = (x5_1 ++ [wrap64 ((rd l0 x10_1) + a1)]) := ⟨_, rfl⟩
       replace H : (spec_ahShift.l0 k1 a1 y437 l0 (l0.length : Int) (wrap64 (x10_1 + 1))) = some r := by first | (rw [hy437]; with_reducible exact H) | (have H2_ := (Option.bind_some _ _).symm.trans H; rw [hy437]; with_reducible exact H2_) | (have H2_ := (Option.bind_some _ _).symm.trans H; with_reducible exact H2_) | with_reducible exact H | (rw [hy437]; exact H) | exact H
       have Ny437 := am hy437
       clear hy437
       have H' := am H
       clear H
       have p436 : 0 ≤ (x10_1 : Int) := ofd (by assumption)
       have q436 : x10_1 < (l0.length : Int) := ofd (by assumption)
       obtain ⟨ad436, e436, hx436_0⟩ := Kd.at_int HR0.out x10_1 p436 q436
       cases e436
       replace hx436_0 := (HB.out.cell (World.block_lt_of_cell? w _ hx436_0)).trans hx436_0
       replace p436 := eq_true p436
       replace q436 := eq_true q436
       go_wp2_with (first | ((with_reducible refine gate_builtin (b := .append) (xs := #[.tmp 14, .tmp 18]) rfl ?_); at_builtin; refine Kd.R_append (Kd.int .i64) (w0 := w) w.heap.size rfl (.tmp 14) (.tmp 18) 24 3 (.int .i64 0) 8 rfl Try.underlying24 info3 rfl (by decide) (by omega) u5 x5_1 (wrap64 ((rd l0 x10_1) + a1)) [.int .i64 (wrap64 ((rd l0 x10_1) + a1))] (fun _ => True) (fun _ => False) rfl rfl ?aP (fun _ hk => hk.elim) ?aF ?aO ?aB ?aS ?aL ?_; (case aP => exact rfl); (case aB => exact (by repeat (with_reducible first | exact HB.out | apply bA | apply bN | apply bD))); (case aF => exact (fun _ _ => trivial)); (case aO => exact (by (with_reducible repeat (first | apply rA | apply rN | apply rD)); exact HO_5.out)); (case aS => exact (below_size (by repeat (with_reducible first | exact HB.out | apply bA | apply bN | apply bD)))); (case aL => have := LMc6.out; omega); intro v438 w7 ho hb hg hat; rw [← Ny437.out] at ho; replace HB := am (hb); have HO439 := am (ho); clear HO_5; clear ho hb hg hat))
       go_roundg k1
       case measure => have := HK1.out; omega
       case rel => exact ⟨(y437), (wrap64 (x10_1 + 1)), (by first | rfl | (simp; done) | (simp [*]; done)), H', ⟨by have := HK1.out; omega⟩, ⟨by (with_reducible repeat (first | apply rA | apply rN | apply rD)); exact HO439.out⟩, ⟨by repeat (with_reducible first | exact HB.out | apply bA | apply bN | apply bD)⟩⟩
      ·rw [if_neg c6] at H
       exact absurd H (by simp)
     ·rw [if_neg c5] at H
      exact absurd H (by simp)
    ·rw [if_neg c4] at H
     exact absurd H (by simp)
   ·rw [if_neg c3] at H
    have c3b0 : decide (x10_1 < (l0.length : Int)) = false := decide_eq_false c3
    clear c3
    obtain rfl := Option.some.inj H
    go_wp2
    go_ret
    exact ⟨_, by first | rfl | (simp [*, errW_none, errW_some] <;> rfl), by (with_reducible repeat (first | apply rA | apply rN | apply rD)); exact HO_5.out, by repeat (with_reducible first | exact HB.out | apply bA | apply bN | apply bD)⟩
def spec_JoinSystems.j0 : Nat → List Int → List Int → Bool → Option (List Int × Bool)
 | 0, _, _, _ => none
 | k + 1, x0, x1, x21 => if x21 = true then (some (([] : List Int), false)) else ((spec_l1Own.f x0).bind fun t442 => ((spec_ahShift.f k x1 (x0.length : Int)).bind fun t445 => (if t442.length + t445.length < 17592186044416 then (some ((t442 ++ t445), true)) else (none))))
def spec_JoinSystems.f (k : Nat) (l0 : List Int) (l1 : List Int) : Option (List Int × Bool) := (spec_ahGood.f k l0).bind fun t440 => (if t440 = true then ((spec_ahGood.f k l1).bind fun t441 => (if t441 = true then (spec_JoinSystems.j0 k l0 l1 (decide ((wrap64 ((l0.length : Int) + (l1.length : Int))) > 12))) else (spec_JoinSystems.j0 k l0 l1 true))) else (spec_JoinSystems.j0 k l0 l1 true))
theorem spec_JoinSystems.calls (k : Nat) (A0 : Option Addr) (c0 : Nat) (l0 : List Int) (A1 : Option Addr) (c1 : Nat) (l1 : List Int) (r1 : List Int) (r2 : Bool) (w : World) (hr0 : Kd.C (Kd.int .i64) w A0 l0.length l0) (hc0 : l0.length ≤ c0) (hr1 : Kd.C (Kd.int .i64) w A1 l1.length l1) (hc1 : l1.length ≤ c1) (h : spec_JoinSystems.f k l0 l1 = some (r1, r2)) :
 Calls Try.prog 65 #[.slice A0 l0.length c0, .slice A1 l1.length c1] w fun e w' => ∃ v0_ : Value, e = .returned (.tuple #[v0_, .bool r2]) ∧ Kd.R (Kd.int .i64) 3 w' w.heap.size (fun _ => True) v0_ r1 ∧ Below w.heap.size w w' := by
 have HR0 := am hr0
 have HC0 := am hc0
 clear hr0 hc0
 have HR1 := am hr1
 have HC1 := am hc1
 clear hr1 hc1
 have HB := am (Below.refl w.heap.size w)
 have H : ((spec_ahGood.f k l0).bind fun t440 => (if t440 = true then ((spec_ahGood.f k l1).bind fun t441 => (if t441 = true then (spec_JoinSystems.j0 k l0 l1 (decide ((wrap64 ((l0.length : Int) + (l1.length : Int))) > 12))) else (spec_JoinSystems.j0 k l0 l1 true))) else (spec_JoinSystems.j0 k l0 l1 true))) = some (r1, r2) := h
 clear h
 have HC3 := am H
 clear H
 go_enter Try.func65, Try.ntmps65
 go_upto_region 1 with (fail)
 go_cut [21] (fun v21 wc => ∃ (kq : Nat) (x21_2 : Bool), v21 = .bool x21_2 ∧ Aside0 (spec_JoinSystems.j0 kq l0 l1 x21_2 = some (r1, r2)) ∧ Aside0 (kq ≤ k) ∧ Aside0 (Below w.heap.size w wc))
 case first =>
  have H := HC3.out
  clear HC3
  replace H := Option.bind_eq_some_iff.mp H
  obtain ⟨t440, A40, H⟩ := H
  replace H : (if t440 = true then ((spec_ahGood.f k l1).bind fun t441 => (if t441 = true then (spec_JoinSystems.j0 k l0 l1 (decide ((wrap64 ((l0.length : Int) + (l1.length : Int))) > 12))) else (spec_JoinSystems.j0 k l0 l1 true))) else (spec_JoinSystems.j0 k l0 l1 true)) = some (r1, r2) := H
  have A4 := am A40
  clear A40
  by_cases c5 : t440 = true
  ·subst c5
   have H1 : ((spec_ahGood.f k l1).bind fun t441 => (if t441 = true then (spec_JoinSystems.j0 k l0 l1 (decide ((wrap64 ((l0.length : Int) + (l1.length : Int))) > 12))) else (spec_JoinSystems.j0 k l0 l1 true))) = some (r1, r2) := by rw [if_pos rfl] at H; exact H
   clear H
   have H := H1
   clear H1
   replace H := Option.bind_eq_some_iff.mp H
   obtain ⟨t441, A60, H⟩ := H
   replace H : (if t441 = true then (spec_JoinSystems.j0 k l0 l1 (decide ((wrap64 ((l0.length : Int) + (l1.length : Int))) > 12))) else (spec_JoinSystems.j0 k l0 l1 true)) = some (r1, r2) := H
   have A6 := am A60
   clear A60
   by_cases c7 : t441 = true
   ·subst c7
    have H1 : (spec_JoinSystems.j0 k l0 l1 (decide ((wrap64 ((l0.length : Int) + (l1.length : Int))) > 12))) = some (r1, r2) := by rw [if_pos rfl] at H; exact H
    clear H
    have H := H1
    clear H1
    have H' := am H
    clear H
    go_wp2_with (first | ((with_reducible refine gate_callee (f := 52) rfl ?_); refine goesL_ (some 7) rfl rfl Try.func52 (by kernel_rfl) rfl #[.slice A0 l0.length c0] rfl (by (try simp only [mT, mC, mZ]); first | done | rfl) ?_; (with_reducible refine (spec_ahGood.calls k _ _ l0 true _ ?side1 ?side2 A4.out).mono ?_); (case side1 => repeat (first | exact (Kd.C_below HR0.out HB.out) | (with_reducible first | apply cA | apply cN | apply cD))); (case side2 => exact HC0.out); rintro e w8 ⟨rfl, hb⟩; refine ⟨_, rfl, ?_⟩; replace HB := am (below_step (by repeat (with_reducible first | exact HB.out | apply bA | apply bN | apply bD)) hb); (try clear hb2); (try clear hb hk hi)) | (go_at_call 52; (with_reducible refine (spec_ahGood.calls k _ _ l1 true _ ?side1 ?side2 A6.out).mono ?_); (case side1 => repeat (first | exact (Kd.C_below HR1.out HB.out) | (with_reducible first | apply cA | apply cN | apply cD))); (case side2 => exact HC1.out); rintro e w9 ⟨rfl, hb⟩; replace HB := am (below_step (by repeat (with_reducible first | exact HB.out | apply bA | apply bN | apply bD)) hb); (try clear hb2); (try clear hb hk hi)))
    go_meet
    case rel => exact ⟨_, (decide ((wrap64 ((l0.length : Int) + (l1.length : Int))) > 12)), (by first | rfl | (simp; done) | (simp [*]; done)), H', ⟨by first | omega | exact Nat.le_refl _⟩, ⟨by repeat (with_reducible first | exact HB.out | apply bA | apply bN | apply bD)⟩⟩
   ·replace c7 := Bool.eq_false_iff.mpr c7
    subst c7
    have H1 : (spec_JoinSystems.j0 k l0 l1 true) = some (r1, r2) := by rw [if_neg (show ¬ (false = true) by decide)] at H; exact H
    clear H
    have H := H1
    clear H1
    have H' := am H
    clear H
    go_wp2_with (first | ((with_reducible refine gate_callee (f := 52) rfl ?_); refine goesL_ (some 7) rfl rfl Try.func52 (by kernel_rfl) rfl #[.slice A0 l0.length c0] rfl (by (try simp only [mT, mC, mZ]); first | done | rfl) ?_; (with_reducible refine (spec_ahGood.calls k _ _ l0 true _ ?side1 ?side2 A4.out).mono ?_); (case side1 => repeat (first | exact (Kd.C_below HR0.out HB.out) | (with_reducible first | apply cA | apply cN | apply cD))); (case side2 => exact HC0.out); rintro e w10 ⟨rfl, hb⟩; refine ⟨_, rfl, ?_⟩; replace HB := am (below_step (by repeat (with_reducible first | exact HB.out | apply bA | apply bN | apply bD)) hb); (try clear hb2); (try clear hb hk hi)) | (go_at_call 52; (with_reducible refine (spec_ahGood.calls k _ _ l1 false _ ?side1 ?side2 A6.out).mono ?_); (case side1 => repeat (first | exact (Kd.C_below HR1.out HB.out) | (with_reducible first | apply cA | apply cN | apply cD))); (case side2 => exact HC1.out); rintro e w11 ⟨rfl, hb⟩; replace HB := am (below_step (by repeat (with_reducible first | exact HB.out | apply bA | apply bN | apply bD)) hb); (try clear hb2); (try clear hb hk hi)))
    go_meet
    case rel => exact ⟨_, (true), (by first | rfl | (simp; done) | (simp [*]; done)), H', ⟨by first | omega | exact Nat.le_refl _⟩, ⟨by repeat (with_reducible first | exact HB.out | apply bA | apply bN | apply bD)⟩⟩
  ·replace c5 := Bool.eq_false_iff.mpr c5
   subst c5
   have H1 : (spec_JoinSystems.j0 k l0 l1 true) = some (r1, r2) := by rw [if_neg (show ¬ (false = true) by decide)] at H; exact H
   clear H
   have H := H1
   clear H1
   have H' := am H
   clear H
   go_wp2_with (first | ((with_reducible refine gate_callee (f := 52) rfl ?_); refine goesL_ (some 7) rfl rfl Try.func52 (by kernel_rfl) rfl #[.slice A0 l0.length c0] rfl (by (try simp only [mT, mC, mZ]); first | done | rfl) ?_; (with_reducible refine (spec_ahGood.calls k _ _ l0 false _ ?side1 ?side2 A4.out).mono ?_); (case side1 => repeat (first | exact (Kd.C_below HR0.out HB.out) | (with_reducible first | apply cA | apply cN | apply cD))); (case side2 => exact HC0.out); rintro e w12 ⟨rfl, hb⟩; refine ⟨_, rfl, ?_⟩; replace HB := am (below_step (by repeat (with_reducible first | exact HB.out | apply bA | apply bN | apply bD)) hb); (try clear hb2); (try clear hb hk hi)))
   go_meet
   case rel => exact ⟨_, (true), (by first | rfl | (simp; done) | (simp [*]; done)), H', ⟨by first | omega | exact Nat.le_refl _⟩, ⟨by repeat (with_reducible first | exact HB.out | apply bA | apply bN | apply bD)⟩⟩
 case rest =>
  clear HC3
  try clear p2
  try clear p6
  obtain ⟨kq, x21_2, rfl, HA, HJ2, HB⟩ := hcut
  cases kq with
  | zero => exact absurd HA.out (by simp [spec_JoinSystems.j0])
  | succ kj2 =>
   have H := HA.out
   clear HA
   simp only [spec_JoinSystems.j0] at H
   by_cases c13 : x21_2 = true
   ·subst c13
    have H1 : (some (([] : List Int), false)) = some (r1, r2) := by rw [if_pos rfl] at H; exact H
    clear H
    have H := H1
    clear H1
    simp only [Option.some.injEq, Prod.mk.injEq] at H
    obtain ⟨rfl, rfl⟩ := H
    go_wp2
    go_ret2
    exact ⟨_, by first | rfl | (simp [*, errW_none, errW_some] <;> rfl), by first | exact Kd.R_nil _ _ _ _ _ | exact Kd.N_nil _ _ _ _ _ | exact Kd.V_nil _ _ _ _ _ | exact Kd.Q_nil _ _ _ _ _ | exact Kd.S_nil _ _ _ _ _, by repeat (with_reducible first | exact HB.out | apply bA | apply bN | apply bD)⟩
   ·replace c13 := Bool.eq_false_iff.mpr c13
    subst c13
    have H1 : ((spec_l1Own.f l0).bind fun t442 => ((spec_ahShift.f kj2 l1 (l0.length : Int)).bind fun t445 => (if t442.length + t445.length < 17592186044416 then (some ((t442 ++ t445), true)) else (none)))) = some (r1, r2) := by rw [if_neg (show ¬ (false = true) by decide)] at H; exact H
    clear H
    have H := H1
    clear H1
    replace H := Option.bind_eq_some_iff.mp H
    obtain ⟨t442, A140, H⟩ := H
    replace H : ((spec_ahShift.f kj2 l1 (l0.length : Int)).bind fun t445 => (if t442.length + t445.length < 17592186044416 then (some ((t442 ++ t445), true)) else (none))) = some (r1, r2) := H
    have A14 := am A140
    clear A140
    replace H := Option.bind_eq_some_iff.mp H
    obtain ⟨t445, A150, H⟩ := H
    replace H : (if t442.length + t445.length < 17592186044416 then (some ((t442 ++ t445), true)) else (none)) = some (r1, r2) := H
    have A15 := am A150
    clear A150
    by_cases c16 : t442.length + t445.length < 17592186044416
    ·rw [if_pos c16] at H
     have LMc16 := am c16
     clear c16
     obtain ⟨y448, hy448⟩ : ∃ y_ : List Int, y_ = (t442 ++ t445) := ⟨_, rfl⟩
     replace H : (some (y448, true)) = some (r1, r2) := by first | (rw [hy448]; with_reducible exact H) | (have H2_ := (Option.bind_some _ _).symm.trans H; rw [hy448]; with_reducible exact H2_) | (have H2_ := (Option.bind_some _ _).symm.trans H; with_reducible exact H2_) | with_reducible exact H | (rw [hy448]; exact H) | exact H
     have Ny448 := am hy448
     clear hy448
     simp only [Option.some.injEq, Prod.mk.injEq] at H
     obtain ⟨rfl, rfl⟩ := H
     go_wp2_with (first | ((with_reducible refine gate_callee (f := 61) rfl ?_); refine goesL_ (some 23) rfl rfl Try.func61 (by kernel_rfl) rfl #[.slice A0 l0.length c0] rfl (by (try simp only [mT, mC, mZ]); first | done | rfl) ?_; (with_reducible refine (spec_l1Own.calls _ _ l0 t442 _ ?side1 ?side2 A14.out).mono ?_); (case side1 => repeat (first | exact (Kd.C_below HR0.out HB.out) | (with_reducible first | apply cA | apply cN | apply cD))); (case side2 => exact HC0.out); rintro e w17 ⟨v443, rfl, ho0, hb⟩; refine ⟨_, rfl, ?_⟩; have HO444 := am (Kd.R_lower ho0 (below_size (by repeat (with_reducible first | exact HB.out | apply bA | apply bN | apply bD)))); replace HB := am (below_step (by repeat (with_reducible first | exact HB.out | apply bA | apply bN | apply bD)) hb); (try clear hb2); (try clear hb hk hi); (try clear ho0)) | ((with_reducible refine gate_callee (f := 84) rfl ?_); refine goesL_ (some 27) rfl rfl Try.func84 (by kernel_rfl) rfl #[.slice A1 l1.length c1, .int .i64 (l0.length : Int)] rfl (by (try simp only [mT, mC, mZ]); first | done | rfl) ?_; (with_reducible refine (spec_ahShift.calls kj2 _ _ l1 (l0.length : Int) t445 _ ?side1 ?side2 A15.out).mono ?_); (case side1 => repeat (first | exact (Kd.C_below HR1.out HB.out) | (with_reducible first | apply cA | apply cN | apply cD))); (case side2 => exact HC1.out); rintro e w18 ⟨v446, rfl, ho0, hb⟩; refine ⟨_, rfl, ?_⟩; have HO447 := am (Kd.R_lower (Kd.R_new' ho0 (Kd.R_lt (by (with_reducible repeat (first | apply rA | apply rN | apply rD)); exact HO444.out))) (below_size (by repeat (with_reducible first | exact HB.out | apply bA | apply bN | apply bD)))); replace HO444 := am (Kd.R_elder' (by (with_reducible repeat (first | apply rA | apply rN | apply rD)); exact HO444.out) (Kd.R_base ho0) hb); replace HB := am (below_step (by repeat (with_reducible first | exact HB.out | apply bA | apply bN | apply bD)) hb); (try clear hb2); (try clear hb hk hi); (try clear ho0); obtain ⟨Ao20, co20, eo20⟩ := Kd.R_slice HO447.out; subst eo20) | ((with_reducible refine gate_builtin (b := .append) (xs := #[.tmp 23, .tmp 27]) rfl ?_); (try (refine gate_guard (by rfl) ?_; dsimp only)); at_builtin; refine Kd.R_append_rows (Kd.int .i64) (w0 := w) w.heap.size rfl (.tmp 23) (.tmp 27) 24 3 (.int .i64 0) 8 rfl Try.underlying24 info3 rfl (by decide) (by omega) v443 t442 t445 _ _ _ (fun k_ => some k_ ≠ (.slice Ao20 t445.length co20 : Value).ownBlock) (fun _ => False) rfl rfl ?aO ?aR (fun _ _ h => h) (fun _ h => h.elim) ?aF ?aB ?aS ?aL ?_; (case aR => repeat (first | exact (Kd.R_reads' HO447.out).2.2 | (with_reducible first | apply cA | apply cN | apply cD))); (case aB => exact (by repeat (with_reducible first | exact HB.out | apply bA | apply bN | apply bD))); (case aF => exact (fun k_ hk => Kd.fresh' (Kd.R_lt (by (with_reducible repeat (first | apply rA | apply rN | apply rD)); exact HO447.out)) k_ hk)); (case aO => exact (by (with_reducible repeat (first | apply rA | apply rN | apply rD)); exact Kd.R_mono HO444.out (fun _ hk => hk.2))); (case aS => exact (below_size (by repeat (with_reducible first | exact HB.out | apply bA | apply bN | apply bD)))); (case aL => have := LMc16.out; omega); intro v449 w19 ho hb hg hat; rw [← Ny448.out] at ho; replace HO447 := am (Kd.R_after (ok := (fun _ => True)) (by (with_reducible repeat (first | apply rA | apply rN | apply rD)); exact HO447.out) hg hat); replace HB := am (hb); have HO450 := am (ho); clear HO444; clear ho hb hg hat))
     go_ret2
     exact ⟨_, by first | rfl | (simp [*, errW_none, errW_some] <;> rfl), by (with_reducible repeat (first | apply rA | apply rN | apply rD)); exact Kd.R_mono HO450.out (fun _ hk => trivial), by repeat (with_reducible first | exact HB.out | apply bA | apply bN | apply bD)⟩
    ·rw [if_neg c16] at H
     exact absurd H (by simp)
def spec_JoinMeanders.j0 : Nat → Bool → List Int → List Int → List Int → List Int → Option (List Int × List Int × Bool)
 | 0, _, _, _, _, _ => none
 | k + 1, x17, x452000, x452001, x453000, x453001 => if x17 = true then (some (([] : List Int), ([] : List Int), false)) else ((spec_JoinSystems.f k x452000 x453000).bind fun bt456 => (if bt456.2 = true then ((spec_JoinSystems.f k x452001 x453001).bind fun bt460 => (some (bt456.1, bt460.1, true))) else (some (([] : List Int), ([] : List Int), false))))
def spec_JoinMeanders.f (k : Nat) (l0_0 : List Int) (l0_1 : List Int) (l1_0 : List Int) (l1_1 : List Int) : Option (List Int × List Int × Bool) := (spec_mePair.f k l0_0 l0_1).bind fun t454 => (if t454 = true then ((spec_mePair.f k l1_0 l1_1).bind fun t455 => (spec_JoinMeanders.j0 k (!t455) l0_0 l0_1 l1_0 l1_1)) else (spec_JoinMeanders.j0 k true l0_0 l0_1 l1_0 l1_1))
theorem spec_JoinMeanders.calls (k : Nat) (A0_0 : Option Addr) (c0_0 : Nat) (l0_0 : List Int) (A0_1 : Option Addr) (c0_1 : Nat) (l0_1 : List Int) (A1_0 : Option Addr) (c1_0 : Nat) (l1_0 : List Int) (A1_1 : Option Addr) (c1_1 : Nat) (l1_1 : List Int) (r1 : List Int) (r2 : List Int) (r3 : Bool) (w : World) (hr0_0 : Kd.C (Kd.int .i64) w A0_0 l0_0.length l0_0) (hc0_0 : l0_0.length ≤ c0_0) (hr0_1 : Kd.C (Kd.int .i64) w A0_1 l0_1.length l0_1) (hc0_1 : l0_1.length ≤ c0_1) (hr1_0 : Kd.C (Kd.int .i64) w A1_0 l1_0.length l1_0) (hc1_0 : l1_0.length ≤ c1_0) (hr1_1 : Kd.C (Kd.int .i64) w A1_1 l1_1.length l1_1) (hc1_1 : l1_1.length ≤ c1_1) (h : spec_JoinMeanders.f k l0_0 l0_1 l1_0 l1_1 = some (r1, r2, r3)) :
 Calls Try.prog 32 #[.agg #[.slice A0_0 l0_0.length c0_0, .slice A0_1 l0_1.length c0_1], .agg #[.slice A1_0 l1_0.length c1_0, .slice A1_1 l1_1.length c1_1]] w fun e w' => ∃ v0_ v1_ : Value, e = .returned (.tuple #[.agg #[v0_, v1_], .bool r3]) ∧ Kd.R (Kd.int .i64) 3 w' w.heap.size (fun k_ => some k_ ≠ (v1_ : Value).ownBlock) v0_ r1 ∧ Kd.R (Kd.int .i64) 3 w' w.heap.size (fun k_ => some k_ ≠ (v0_ : Value).ownBlock) v1_ r2 ∧ Below w.heap.size w w' := by
 have hu26 := Try.underlying26
 have HR0_0 := am hr0_0
 have HC0_0 := am hc0_0
 clear hr0_0 hc0_0
 have HR0_1 := am hr0_1
 have HC0_1 := am hc0_1
 clear hr0_1 hc0_1
 have HR1_0 := am hr1_0
 have HC1_0 := am hc1_0
 clear hr1_0 hc1_0
 have HR1_1 := am hr1_1
 have HC1_1 := am hc1_1
 clear hr1_1 hc1_1
 have HB := am (Below.refl w.heap.size w)
 have H : ((spec_mePair.f k l0_0 l0_1).bind fun t454 => (if t454 = true then ((spec_mePair.f k l1_0 l1_1).bind fun t455 => (spec_JoinMeanders.j0 k (!t455) l0_0 l0_1 l1_0 l1_1)) else (spec_JoinMeanders.j0 k true l0_0 l0_1 l1_0 l1_1))) = some (r1, r2, r3) := h
 clear h
 have HC3 := am H
 clear H
 go_enter Try.func32, Try.ntmps32
 go_upto_region 1 with (first | ((with_reducible refine gate_dst (N := 2) rfl ?_); refine box_event ?hg (N := 2) ?hd (cs := #[.slice A0_0 l0_0.length c0_0, .slice A0_1 l0_1.length c0_1]) (t := 26) ?hr ?_; (case hd => rfl); (case hg => rfl); (case hr => first | (go_simp; done) | (go_simp; rfl)); intro gb451 hg w4 hbox hb; have BK451 := am (hbox); have GW451 := am ((by rw [hg]; exact (below_size (by repeat (with_reducible first | exact HB.out | apply bA | apply bN | apply bD))) : w.heap.size ≤ gb451)); have GE451 := am ((by rw [hg]; exact (below_size (by repeat (with_reducible first | exact HB.out | apply bA | apply bN | apply bD))) : w.heap.size ≤ gb451)); replace HB := am (below_step (by repeat (with_reducible first | exact HB.out | apply bA | apply bN | apply bD)) hb); clear hb hbox hg) | ((with_reducible refine gate_dst (N := 3) rfl ?_); refine box_event ?hg (N := 3) ?hd (cs := #[.slice A1_0 l1_0.length c1_0, .slice A1_1 l1_1.length c1_1]) (t := 26) ?hr ?_; (case hd => rfl); (case hg => rfl); (case hr => first | (go_simp; done) | (go_simp; rfl)); intro gb452 hg w5 hbox hb; have BK452 := am (hbox); have GW452 := am ((by rw [hg]; exact (below_size (by repeat (with_reducible first | exact HB.out | apply bA | apply bN | apply bD | refine bS ?_ GE451.out))) : w.heap.size ≤ gb452)); have GE452 := am ((by rw [hg]; exact (below_size (by repeat (with_reducible first | exact HB.out | apply bA | apply bN | apply bD | refine bS ?_ GE451.out))) : w.heap.size ≤ gb452)); replace HB := am (below_step (by repeat (with_reducible first | exact HB.out | apply bA | apply bN | apply bD | refine bS ?_ GE451.out)) hb); have NB451_452 := am ((by rw [hg]; exact Nat.ne_of_lt (blk_lt (g := gb451) (by (with_reducible repeat (first | apply kB | apply kC | apply kE)); exact BK451.out)) : gb451 ≠ gb452)); have NB452_451 := am ((by rw [hg]; exact Nat.ne_of_gt (blk_lt (g := gb451) (by (with_reducible repeat (first | apply kB | apply kC | apply kE)); exact BK451.out)) : gb452 ≠ gb451)); replace BK451 := am (blk_below (g := gb451) (by (with_reducible repeat (first | apply kB | apply kC | apply kE)); exact BK451.out) hb); clear hb hbox hg) | ((with_reducible refine gate_dst (N := 4) rfl ?_); refine box_event ?hg (N := 4) ?hd (cs := #[.slice none 0 0, .slice none 0 0]) (t := 26) ?hr ?_; (case hd => rfl); (case hg => rfl); (case hr => first | (go_simp; done) | (go_simp; rfl)); intro gb453 hg w6 hbox hb; have BK453 := am (hbox); have GW453 := am ((by rw [hg]; exact (below_size (by repeat (with_reducible first | exact HB.out | apply bA | apply bN | apply bD | refine bS ?_ GE451.out | refine bS ?_ GE452.out))) : w.heap.size ≤ gb453)); have GE453 := am ((by rw [hg]; exact (below_size (by repeat (with_reducible first | exact HB.out | apply bA | apply bN | apply bD | refine bS ?_ GE451.out | refine bS ?_ GE452.out))) : w.heap.size ≤ gb453)); replace HB := am (below_step (by repeat (with_reducible first | exact HB.out | apply bA | apply bN | apply bD | refine bS ?_ GE451.out | refine bS ?_ GE452.out)) hb); have NB451_453 := am ((by rw [hg]; exact Nat.ne_of_lt (blk_lt (g := gb451) (by (with_reducible repeat (first | apply kB | apply kC | apply kE)); exact BK451.out)) : gb451 ≠ gb453)); have NB453_451 := am ((by rw [hg]; exact Nat.ne_of_gt (blk_lt (g := gb451) (by (with_reducible repeat (first | apply kB | apply kC | apply kE)); exact BK451.out)) : gb453 ≠ gb451)); replace BK451 := am (blk_below (g := gb451) (by (with_reducible repeat (first | apply kB | apply kC | apply kE)); exact BK451.out) hb); have NB452_453 := am ((by rw [hg]; exact Nat.ne_of_lt (blk_lt (g := gb452) (by (with_reducible repeat (first | apply kB | apply kC | apply kE)); exact BK452.out)) : gb452 ≠ gb453)); have NB453_452 := am ((by rw [hg]; exact Nat.ne_of_gt (blk_lt (g := gb452) (by (with_reducible repeat (first | apply kB | apply kC | apply kE)); exact BK452.out)) : gb453 ≠ gb452)); replace BK452 := am (blk_below (g := gb452) (by (with_reducible repeat (first | apply kB | apply kC | apply kE)); exact BK452.out) hb); clear hb hbox hg))
 (try simp only [Act.put, sI, s0_, s1_])
 go_cut [17] (fun v17 wc => ∃ (kq : Nat) (x17_2 : Bool), v17 = .bool x17_2 ∧ Aside0 (spec_JoinMeanders.j0 kq x17_2 l0_0 l0_1 l1_0 l1_1 = some (r1, r2, r3)) ∧ Aside0 (kq ≤ k) ∧ Aside0 (wc.heap[gb451]? = some (.cells #[(.slice A0_0 l0_0.length c0_0), (.slice A0_1 l0_1.length c0_1)] 26 (0, 0))) ∧ Aside0 (wc.heap[gb452]? = some (.cells #[(.slice A1_0 l1_0.length c1_0), (.slice A1_1 l1_1.length c1_1)] 26 (0, 0))) ∧ Aside0 (wc.heap[gb453]? = some (.cells #[(.slice none 0 0), (.slice none 0 0)] 26 (0, 0))) ∧ Aside0 (Below w.heap.size w wc))
 case first =>
  have H := HC3.out
  clear HC3
  replace H := Option.bind_eq_some_iff.mp H
  obtain ⟨t454, A70, H⟩ := H
  replace H : (if t454 = true then ((spec_mePair.f k l1_0 l1_1).bind fun t455 => (spec_JoinMeanders.j0 k (!t455) l0_0 l0_1 l1_0 l1_1)) else (spec_JoinMeanders.j0 k true l0_0 l0_1 l1_0 l1_1)) = some (r1, r2, r3) := H
  have A7 := am A70
  clear A70
  by_cases c8 : t454 = true
  ·subst c8
   have H1 : ((spec_mePair.f k l1_0 l1_1).bind fun t455 => (spec_JoinMeanders.j0 k (!t455) l0_0 l0_1 l1_0 l1_1)) = some (r1, r2, r3) := by rw [if_pos rfl] at H; exact H
   clear H
   have H := H1
   clear H1
   replace H := Option.bind_eq_some_iff.mp H
   obtain ⟨t455, A90, H⟩ := H
   replace H : (spec_JoinMeanders.j0 k (!t455) l0_0 l0_1 l1_0 l1_1) = some (r1, r2, r3) := H
   have A9 := am A90
   clear A90
   have H' := am H
   clear H
   have hnb10 := NB451_452.out
   have hnc10 := NB452_451.out
   have hnb11 := NB451_453.out
   have hnc11 := NB453_451.out
   have hcz12_0 : w6.cell? ⟨gb451, 0, none⟩ = some (.slice A0_0 l0_0.length c0_0) := (blk_cell BK451.out 0).trans rfl
   have hcz12_1 : w6.cell? ⟨gb451, 1, none⟩ = some (.slice A0_1 l0_1.length c0_1) := (blk_cell BK451.out 1).trans rfl
   have hfz12_0 := blk_frozen BK451.out 0
   have hfz12_1 := blk_frozen BK451.out 1
   go_wp2_with (first | ((with_reducible refine gate_callee (f := 41) rfl ?_); refine goesL_ (some 11) rfl rfl Try.func41 (by kernel_rfl) rfl #[.agg #[.slice A0_0 l0_0.length c0_0, .slice A0_1 l0_1.length c0_1]] rfl (by (try simp only [mT, mC, mZ]); first | done | rfl) ?_; (with_reducible refine (spec_mePair.calls k _ _ l0_0 _ _ l0_1 true _ ?side1 ?side2 ?side3 ?side4 A7.out).mono ?_); (case side1 => repeat (first | exact (Kd.C_below HR0_0.out HB.out) | (with_reducible first | apply cA | apply cN | apply cD))); (case side2 => exact HC0_0.out); (case side3 => repeat (first | exact (Kd.C_below HR0_1.out HB.out) | (with_reducible first | apply cA | apply cN | apply cD))); (case side4 => exact HC0_1.out); rintro e w13 ⟨rfl, hb⟩; refine ⟨_, rfl, ?_⟩; replace BK451 := am (blk_below (g := gb451) (by (with_reducible repeat (first | apply kB | apply kC | apply kE)); exact BK451.out) hb); replace BK452 := am (blk_below (g := gb452) (by (with_reducible repeat (first | apply kB | apply kC | apply kE)); exact BK452.out) hb); replace BK453 := am (blk_below (g := gb453) (by (with_reducible repeat (first | apply kB | apply kC | apply kE)); exact BK453.out) hb); replace HB := am (below_step (by repeat (with_reducible first | exact HB.out | apply bA | apply bN | apply bD | refine bS ?_ GE451.out | refine bS ?_ GE452.out | refine bS ?_ GE453.out)) hb); (try clear hb2); (try clear hb hk hi); have hnb14 := NB452_453.out; have hnc14 := NB453_452.out; have hcz15_0 : w13.cell? ⟨gb452, 0, none⟩ = some (.slice A1_0 l1_0.length c1_0) := (blk_cell BK452.out 0).trans rfl; have hcz15_1 : w13.cell? ⟨gb452, 1, none⟩ = some (.slice A1_1 l1_1.length c1_1) := (blk_cell BK452.out 1).trans rfl; have hfz15_0 := blk_frozen BK452.out 0; have hfz15_1 := blk_frozen BK452.out 1) | (go_at_call 41; (with_reducible refine (spec_mePair.calls k _ _ l1_0 _ _ l1_1 t455 _ ?side1 ?side2 ?side3 ?side4 A9.out).mono ?_); (case side1 => repeat (first | exact (Kd.C_below HR1_0.out HB.out) | (with_reducible first | apply cA | apply cN | apply cD))); (case side2 => exact HC1_0.out); (case side3 => repeat (first | exact (Kd.C_below HR1_1.out HB.out) | (with_reducible first | apply cA | apply cN | apply cD))); (case side4 => exact HC1_1.out); rintro e w16 ⟨rfl, hb⟩; replace BK451 := am (blk_below (g := gb451) (by (with_reducible repeat (first | apply kB | apply kC | apply kE)); exact BK451.out) hb); replace BK452 := am (blk_below (g := gb452) (by (with_reducible repeat (first | apply kB | apply kC | apply kE)); exact BK452.out) hb); replace BK453 := am (blk_below (g := gb453) (by (with_reducible repeat (first | apply kB | apply kC | apply kE)); exact BK453.out) hb); replace HB := am (below_step (by repeat (with_reducible first | exact HB.out | apply bA | apply bN | apply bD | refine bS ?_ GE451.out | refine bS ?_ GE452.out | refine bS ?_ GE453.out)) hb); (try clear hb2); (try clear hb hk hi)))
   go_meet
   case rel => exact ⟨_, (!t455), (by first | rfl | (simp; done) | (simp [*]; done)), H', ⟨by first | omega | exact Nat.le_refl _⟩, ⟨by (with_reducible repeat (first | apply kB | apply kC | apply kE)); exact BK451.out⟩, ⟨by (with_reducible repeat (first | apply kB | apply kC | apply kE)); exact BK452.out⟩, ⟨by (with_reducible repeat (first | apply kB | apply kC | apply kE)); exact BK453.out⟩, ⟨by repeat (with_reducible first | exact HB.out | apply bA | apply bN | apply bD | refine bS ?_ GE451.out | refine bS ?_ GE452.out | refine bS ?_ GE453.out)⟩⟩
  ·replace c8 := Bool.eq_false_iff.mpr c8
   subst c8
   have H1 : (spec_JoinMeanders.j0 k true l0_0 l0_1 l1_0 l1_1) = some (r1, r2, r3) := by rw [if_neg (show ¬ (false = true) by decide)] at H; exact H
   clear H
   have H := H1
   clear H1
   have H' := am H
   clear H
   have hnb17 := NB451_452.out
   have hnc17 := NB452_451.out
   have hnb18 := NB451_453.out
   have hnc18 := NB453_451.out
   have hcz19_0 : w6.cell? ⟨gb451, 0, none⟩ = some (.slice A0_0 l0_0.length c0_0) := (blk_cell BK451.out 0).trans rfl
   have hcz19_1 : w6.cell? ⟨gb451, 1, none⟩ = some (.slice A0_1 l0_1.length c0_1) := (blk_cell BK451.out 1).trans rfl
   have hfz19_0 := blk_frozen BK451.out 0
   have hfz19_1 := blk_frozen BK451.out 1
   go_wp2_with (first | ((with_reducible refine gate_callee (f := 41) rfl ?_); refine goesL_ (some 11) rfl rfl Try.func41 (by kernel_rfl) rfl #[.agg #[.slice A0_0 l0_0.length c0_0, .slice A0_1 l0_1.length c0_1]] rfl (by (try simp only [mT, mC, mZ]); first | done | rfl) ?_; (with_reducible refine (spec_mePair.calls k _ _ l0_0 _ _ l0_1 false _ ?side1 ?side2 ?side3 ?side4 A7.out).mono ?_); (case side1 => repeat (first | exact (Kd.C_below HR0_0.out HB.out) | (with_reducible first | apply cA | apply cN | apply cD))); (case side2 => exact HC0_0.out); (case side3 => repeat (first | exact (Kd.C_below HR0_1.out HB.out) | (with_reducible first | apply cA | apply cN | apply cD))); (case side4 => exact HC0_1.out); rintro e w20 ⟨rfl, hb⟩; refine ⟨_, rfl, ?_⟩; replace BK451 := am (blk_below (g := gb451) (by (with_reducible repeat (first | apply kB | apply kC | apply kE)); exact BK451.out) hb); replace BK452 := am (blk_below (g := gb452) (by (with_reducible repeat (first | apply kB | apply kC | apply kE)); exact BK452.out) hb); replace BK453 := am (blk_below (g := gb453) (by (with_reducible repeat (first | apply kB | apply kC | apply kE)); exact BK453.out) hb); replace HB := am (below_step (by repeat (with_reducible first | exact HB.out | apply bA | apply bN | apply bD | refine bS ?_ GE451.out | refine bS ?_ GE452.out | refine bS ?_ GE453.out)) hb); (try clear hb2); (try clear hb hk hi)))
   go_meet
   case rel => exact ⟨_, (true), (by first | rfl | (simp; done) | (simp [*]; done)), H', ⟨by first | omega | exact Nat.le_refl _⟩, ⟨by (with_reducible repeat (first | apply kB | apply kC | apply kE)); exact BK451.out⟩, ⟨by (with_reducible repeat (first | apply kB | apply kC | apply kE)); exact BK452.out⟩, ⟨by (with_reducible repeat (first | apply kB | apply kC | apply kE)); exact BK453.out⟩, ⟨by repeat (with_reducible first | exact HB.out | apply bA | apply bN | apply bD | refine bS ?_ GE451.out | refine bS ?_ GE452.out | refine bS ?_ GE453.out)⟩⟩
 case rest =>
  clear HC3
  try clear p2
  try clear hcz12_0
  try clear hcz12_1
  try clear hcz15_0
  try clear hcz15_1
  try clear hcz19_0
  try clear hcz19_1
  try clear hfz12_0
  try clear hfz12_1
  try clear hfz15_0
  try clear hfz15_1
  try clear hfz19_0
  try clear hfz19_1
  obtain ⟨kq, x17_2, rfl, HA, HJ2, BK451, BK452, BK453, HB⟩ := hcut
  cases kq with
  | zero => exact absurd HA.out (by simp [spec_JoinMeanders.j0])
  | succ kj2 =>
   have H := HA.out
   clear HA
   simp only [spec_JoinMeanders.j0] at H
   by_cases c21 : x17_2 = true
   ·subst c21
    have H1 : (some (([] : List Int), ([] : List Int), false)) = some (r1, r2, r3) := by rw [if_pos rfl] at H; exact H
    clear H
    have H := H1
    clear H1
    simp only [Option.some.injEq, Prod.mk.injEq] at H
    obtain ⟨rfl, rfl, rfl⟩ := H
    have hnb22 := NB453_451.out
    have hnc22 := NB451_453.out
    have hnb23 := NB453_452.out
    have hnc23 := NB452_453.out
    have hcz24_0 : wc.cell? ⟨gb453, 0, none⟩ = some (.slice none 0 0) := (blk_cell BK453.out 0).trans rfl
    have hcz24_1 : wc.cell? ⟨gb453, 1, none⟩ = some (.slice none 0 0) := (blk_cell BK453.out 1).trans rfl
    have hfz24_0 := blk_frozen BK453.out 0
    have hfz24_1 := blk_frozen BK453.out 1
    go_wp2
    refine bodyPost_ret (results_ct rfl _ _ gb453 26 #[.slice none 0 0, .slice none 0 0] (0, 0) _ rfl (by (with_reducible repeat (first | apply kB | apply kC | apply kE)); refine blk_put (cs := #[.slice none 0 0, .slice none 0 0]) ?_ 1 _ rfl; (with_reducible repeat (first | apply kB | apply kC | apply kE)); refine blk_put (cs := #[.slice none 0 0, .slice none 0 0]) ?_ 0 _ rfl; (with_reducible repeat (first | apply kB | apply kC | apply kE)); exact BK453.out) Try.underlying26 rfl (by kernel_rfl)) rfl ?_
    exact ⟨_, _, by first | rfl | (simp [*, errW_none, errW_some] <;> rfl), by first | exact Kd.R_nil _ _ _ _ _ | exact Kd.N_nil _ _ _ _ _ | exact Kd.V_nil _ _ _ _ _ | exact Kd.Q_nil _ _ _ _ _ | exact Kd.S_nil _ _ _ _ _, by first | exact Kd.R_nil _ _ _ _ _ | exact Kd.N_nil _ _ _ _ _ | exact Kd.V_nil _ _ _ _ _ | exact Kd.Q_nil _ _ _ _ _ | exact Kd.S_nil _ _ _ _ _, by repeat (with_reducible first | exact HB.out | apply bA | apply bN | apply bD | refine bS ?_ GE451.out | refine bS ?_ GE452.out | refine bS ?_ GE453.out)⟩
   ·replace c21 := Bool.eq_false_iff.mpr c21
    subst c21
    have H1 : ((spec_JoinSystems.f kj2 l0_0 l1_0).bind fun bt456 => (if bt456.2 = true then ((spec_JoinSystems.f kj2 l0_1 l1_1).bind fun bt460 => (some (bt456.1, bt460.1, true))) else (some (([] : List Int), ([] : List Int), false)))) = some (r1, r2, r3) := by rw [if_neg (show ¬ (false = true) by decide)] at H; exact H
    clear H
    have H := H1
    clear H1
    replace H := Option.bind_eq_some_iff.mp H
    obtain ⟨⟨t456, t457⟩, A250, H⟩ := H
    replace H : (if t457 = true then ((spec_JoinSystems.f kj2 l0_1 l1_1).bind fun bt460 => (some (t456, bt460.1, true))) else (some (([] : List Int), ([] : List Int), false))) = some (r1, r2, r3) := H
    have A25 := am A250
    clear A250
    by_cases c26 : t457 = true
    ·subst c26
     have H1 : ((spec_JoinSystems.f kj2 l0_1 l1_1).bind fun bt460 => (some (t456, bt460.1, true))) = some (r1, r2, r3) := by rw [if_pos rfl] at H; exact H
     clear H
     have H := H1
     clear H1
     replace H := Option.bind_eq_some_iff.mp H
     obtain ⟨⟨t460, t461⟩, A270, H⟩ := H
     replace H : (some (t456, t460, true)) = some (r1, r2, r3) := H
     have A27 := am A270
     clear A270
     simp only [Option.some.injEq, Prod.mk.injEq] at H
     obtain ⟨rfl, rfl, rfl⟩ := H
     have hnb28 := NB451_452.out
     have hnc28 := NB452_451.out
     have hnb29 := NB451_453.out
     have hnc29 := NB453_451.out
     have hcz30_0 : wc.cell? ⟨gb451, 0, none⟩ = some (.slice A0_0 l0_0.length c0_0) := (blk_cell BK451.out 0).trans rfl
     have hcz30_1 : wc.cell? ⟨gb451, 1, none⟩ = some (.slice A0_1 l0_1.length c0_1) := (blk_cell BK451.out 1).trans rfl
     have hfz30_0 := blk_frozen BK451.out 0
     have hfz30_1 := blk_frozen BK451.out 1
     have hnb31 := NB452_453.out
     have hnc31 := NB453_452.out
     have hcz32_0 : wc.cell? ⟨gb452, 0, none⟩ = some (.slice A1_0 l1_0.length c1_0) := (blk_cell BK452.out 0).trans rfl
     have hcz32_1 : wc.cell? ⟨gb452, 1, none⟩ = some (.slice A1_1 l1_1.length c1_1) := (blk_cell BK452.out 1).trans rfl
     have hfz32_0 := blk_frozen BK452.out 0
     have hfz32_1 := blk_frozen BK452.out 1
     go_wp2_with (first | ((with_reducible refine gate_callee (f := 65) rfl ?_); refine goesL_ (some 24) rfl rfl Try.func65 (by kernel_rfl) rfl #[.slice A0_0 l0_0.length c0_0, .slice A1_0 l1_0.length c1_0] rfl (by (try simp only [mT, mC, mZ]); first | done | rfl) ?_; (with_reducible refine (spec_JoinSystems.calls kj2 _ _ l0_0 _ _ l1_0 t456 true _ ?side1 ?side2 ?side3 ?side4 A25.out).mono ?_); (case side1 => repeat (first | exact (Kd.C_below HR0_0.out HB.out) | (with_reducible first | apply cA | apply cN | apply cD))); (case side2 => exact HC0_0.out); (case side3 => repeat (first | exact (Kd.C_below HR1_0.out HB.out) | (with_reducible first | apply cA | apply cN | apply cD))); (case side4 => exact HC1_0.out); rintro e w33 ⟨v458, rfl, ho0, hb⟩; refine ⟨_, rfl, ?_⟩; have HO459 := am (Kd.R_lower ho0 (below_size (by repeat (with_reducible first | exact HB.out | apply bA | apply bN | apply bD | refine bS ?_ GE451.out | refine bS ?_ GE452.out | refine bS ?_ GE453.out)))); replace BK451 := am (blk_below (g := gb451) (by (with_reducible repeat (first | apply kB | apply kC | apply kE)); exact BK451.out) hb); replace BK452 := am (blk_below (g := gb452) (by (with_reducible repeat (first | apply kB | apply kC | apply kE)); exact BK452.out) hb); replace BK453 := am (blk_below (g := gb453) (by (with_reducible repeat (first | apply kB | apply kC | apply kE)); exact BK453.out) hb); replace HB := am (below_step (by repeat (with_reducible first | exact HB.out | apply bA | apply bN | apply bD | refine bS ?_ GE451.out | refine bS ?_ GE452.out | refine bS ?_ GE453.out)) hb); (try clear hb2); (try clear hb hk hi); (try clear ho0); have hcz34_0 : w33.cell? ⟨gb451, 0, none⟩ = some (.slice A0_0 l0_0.length c0_0) := (blk_cell BK451.out 0).trans rfl; have hcz34_1 : w33.cell? ⟨gb451, 1, none⟩ = some (.slice A0_1 l0_1.length c0_1) := (blk_cell BK451.out 1).trans rfl; have hfz34_0 := blk_frozen BK451.out 0; have hfz34_1 := blk_frozen BK451.out 1; have hcz35_0 : w33.cell? ⟨gb452, 0, none⟩ = some (.slice A1_0 l1_0.length c1_0) := (blk_cell BK452.out 0).trans rfl; have hcz35_1 : w33.cell? ⟨gb452, 1, none⟩ = some (.slice A1_1 l1_1.length c1_1) := (blk_cell BK452.out 1).trans rfl; have hfz35_0 := blk_frozen BK452.out 0; have hfz35_1 := blk_frozen BK452.out 1) | ((with_reducible refine gate_callee (f := 65) rfl ?_); refine goesL_ (some 35) rfl rfl Try.func65 (by kernel_rfl) rfl #[.slice A0_1 l0_1.length c0_1, .slice A1_1 l1_1.length c1_1] rfl (by (try simp only [mT, mC, mZ]); first | done | rfl) ?_; (with_reducible refine (spec_JoinSystems.calls kj2 _ _ l0_1 _ _ l1_1 t460 t461 _ ?side1 ?side2 ?side3 ?side4 A27.out).mono ?_); (case side1 => repeat (first | exact (Kd.C_below HR0_1.out HB.out) | (with_reducible first | apply cA | apply cN | apply cD))); (case side2 => exact HC0_1.out); (case side3 => repeat (first | exact (Kd.C_below HR1_1.out HB.out) | (with_reducible first | apply cA | apply cN | apply cD))); (case side4 => exact HC1_1.out); rintro e w36 ⟨v462, rfl, ho0, hb⟩; refine ⟨_, rfl, ?_⟩; have HO463 := am (Kd.R_lower (Kd.R_new' ho0 (Kd.R_lt (by (with_reducible repeat (first | apply rA | apply rN | apply rD)); exact HO459.out))) (below_size (by repeat (with_reducible first | exact HB.out | apply bA | apply bN | apply bD | refine bS ?_ GE451.out | refine bS ?_ GE452.out | refine bS ?_ GE453.out)))); replace HO459 := am (Kd.R_elder' (by (with_reducible repeat (first | apply rA | apply rN | apply rD)); exact HO459.out) (Kd.R_base ho0) hb); replace BK451 := am (blk_below (g := gb451) (by (with_reducible repeat (first | apply kB | apply kC | apply kE)); exact BK451.out) hb); replace BK452 := am (blk_below (g := gb452) (by (with_reducible repeat (first | apply kB | apply kC | apply kE)); exact BK452.out) hb); replace BK453 := am (blk_below (g := gb453) (by (with_reducible repeat (first | apply kB | apply kC | apply kE)); exact BK453.out) hb); replace HB := am (below_step (by repeat (with_reducible first | exact HB.out | apply bA | apply bN | apply bD | refine bS ?_ GE451.out | refine bS ?_ GE452.out | refine bS ?_ GE453.out)) hb); (try clear hb2); (try clear hb hk hi); (try clear ho0); obtain ⟨Ao37, co37, eo37⟩ := Kd.R_slice HO463.out; subst eo37; obtain ⟨Ao38, co38, eo38⟩ := Kd.R_slice HO459.out; subst eo38; have hcz39_0 : w36.cell? ⟨gb453, 0, none⟩ = some (.slice none 0 0) := (blk_cell BK453.out 0).trans rfl; have hcz39_1 : w36.cell? ⟨gb453, 1, none⟩ = some (.slice none 0 0) := (blk_cell BK453.out 1).trans rfl; have hfz39_0 := blk_frozen BK453.out 0; have hfz39_1 := blk_frozen BK453.out 1))
     refine bodyPost_ret (results_ct rfl _ _ gb453 26 #[.slice Ao38 t456.length co38, .slice Ao37 t460.length co37] (0, 0) _ rfl (by (with_reducible repeat (first | apply kB | apply kC | apply kE)); refine blk_put (cs := #[.slice Ao38 t456.length co38, .slice none 0 0]) ?_ 1 _ rfl; (with_reducible repeat (first | apply kB | apply kC | apply kE)); refine blk_put (cs := #[.slice none 0 0, .slice none 0 0]) ?_ 0 _ rfl; (with_reducible repeat (first | apply kB | apply kC | apply kE)); exact BK453.out) Try.underlying26 rfl (by kernel_rfl)) rfl ?_
     exact ⟨_, _, by first | rfl | (simp [*, errW_none, errW_some] <;> rfl), by (with_reducible repeat (first | apply rA | apply rN | apply rD)); exact Kd.R_mono (Kd.R_far (p := ⟨gb453, 1, none⟩) (Kd.R_far (p := ⟨gb453, 0, none⟩) (Kd.R_types HO459.out BK453.out (by decide)) (fun _ hk => hk.2) (.slice Ao38 t456.length co38)) (fun _ hk => hk.2) (.slice Ao37 t460.length co37)) (fun _ hk => hk.1.2), by (with_reducible repeat (first | apply rA | apply rN | apply rD)); exact Kd.R_mono (Kd.R_far (p := ⟨gb453, 1, none⟩) (Kd.R_far (p := ⟨gb453, 0, none⟩) (Kd.R_types HO463.out BK453.out (by decide)) (fun _ hk => hk.2) (.slice Ao38 t456.length co38)) (fun _ hk => hk.2) (.slice Ao37 t460.length co37)) (fun _ hk => hk.1.2), by repeat (with_reducible first | exact HB.out | apply bA | apply bN | apply bD | refine bS ?_ GE451.out | refine bS ?_ GE452.out | refine bS ?_ GE453.out)⟩
    ·replace c26 := Bool.eq_false_iff.mpr c26
     subst c26
     have H1 : (some (([] : List Int), ([] : List Int), false)) = some (r1, r2, r3) := by rw [if_neg (show ¬ (false = true) by decide)] at H; exact H
     clear H
     have H := H1
     clear H1
     simp only [Option.some.injEq, Prod.mk.injEq] at H
     obtain ⟨rfl, rfl, rfl⟩ := H
     have hnb40 := NB451_452.out
     have hnc40 := NB452_451.out
     have hnb41 := NB451_453.out
     have hnc41 := NB453_451.out
     have hcz42_0 : wc.cell? ⟨gb451, 0, none⟩ = some (.slice A0_0 l0_0.length c0_0) := (blk_cell BK451.out 0).trans rfl
     have hcz42_1 : wc.cell? ⟨gb451, 1, none⟩ = some (.slice A0_1 l0_1.length c0_1) := (blk_cell BK451.out 1).trans rfl
     have hfz42_0 := blk_frozen BK451.out 0
     have hfz42_1 := blk_frozen BK451.out 1
     have hnb43 := NB452_453.out
     have hnc43 := NB453_452.out
     have hcz44_0 : wc.cell? ⟨gb452, 0, none⟩ = some (.slice A1_0 l1_0.length c1_0) := (blk_cell BK452.out 0).trans rfl
     have hcz44_1 : wc.cell? ⟨gb452, 1, none⟩ = some (.slice A1_1 l1_1.length c1_1) := (blk_cell BK452.out 1).trans rfl
     have hfz44_0 := blk_frozen BK452.out 0
     have hfz44_1 := blk_frozen BK452.out 1
     go_wp2_with (first | ((with_reducible refine gate_callee (f := 65) rfl ?_); refine goesL_ (some 24) rfl rfl Try.func65 (by kernel_rfl) rfl #[.slice A0_0 l0_0.length c0_0, .slice A1_0 l1_0.length c1_0] rfl (by (try simp only [mT, mC, mZ]); first | done | rfl) ?_; (with_reducible refine (spec_JoinSystems.calls kj2 _ _ l0_0 _ _ l1_0 t456 false _ ?side1 ?side2 ?side3 ?side4 A25.out).mono ?_); (case side1 => repeat (first | exact (Kd.C_below HR0_0.out HB.out) | (with_reducible first | apply cA | apply cN | apply cD))); (case side2 => exact HC0_0.out); (case side3 => repeat (first | exact (Kd.C_below HR1_0.out HB.out) | (with_reducible first | apply cA | apply cN | apply cD))); (case side4 => exact HC1_0.out); rintro e w45 ⟨v458, rfl, ho0, hb⟩; refine ⟨_, rfl, ?_⟩; have HO459 := am (Kd.R_lower ho0 (below_size (by repeat (with_reducible first | exact HB.out | apply bA | apply bN | apply bD | refine bS ?_ GE451.out | refine bS ?_ GE452.out | refine bS ?_ GE453.out)))); replace BK451 := am (blk_below (g := gb451) (by (with_reducible repeat (first | apply kB | apply kC | apply kE)); exact BK451.out) hb); replace BK452 := am (blk_below (g := gb452) (by (with_reducible repeat (first | apply kB | apply kC | apply kE)); exact BK452.out) hb); replace BK453 := am (blk_below (g := gb453) (by (with_reducible repeat (first | apply kB | apply kC | apply kE)); exact BK453.out) hb); replace HB := am (below_step (by repeat (with_reducible first | exact HB.out | apply bA | apply bN | apply bD | refine bS ?_ GE451.out | refine bS ?_ GE452.out | refine bS ?_ GE453.out)) hb); (try clear hb2); (try clear hb hk hi); (try clear ho0); have hcz46_0 : w45.cell? ⟨gb453, 0, none⟩ = some (.slice none 0 0) := (blk_cell BK453.out 0).trans rfl; have hcz46_1 : w45.cell? ⟨gb453, 1, none⟩ = some (.slice none 0 0) := (blk_cell BK453.out 1).trans rfl; have hfz46_0 := blk_frozen BK453.out 0; have hfz46_1 := blk_frozen BK453.out 1))
     refine bodyPost_ret (results_ct rfl _ _ gb453 26 #[.slice none 0 0, .slice none 0 0] (0, 0) _ rfl (by (with_reducible repeat (first | apply kB | apply kC | apply kE)); refine blk_put (cs := #[.slice none 0 0, .slice none 0 0]) ?_ 1 _ rfl; (with_reducible repeat (first | apply kB | apply kC | apply kE)); refine blk_put (cs := #[.slice none 0 0, .slice none 0 0]) ?_ 0 _ rfl; (with_reducible repeat (first | apply kB | apply kC | apply kE)); exact BK453.out) Try.underlying26 rfl (by kernel_rfl)) rfl ?_
     exact ⟨_, _, by first | rfl | (simp [*, errW_none, errW_some] <;> rfl), by first | exact Kd.R_nil _ _ _ _ _ | exact Kd.N_nil _ _ _ _ _ | exact Kd.V_nil _ _ _ _ _ | exact Kd.Q_nil _ _ _ _ _ | exact Kd.S_nil _ _ _ _ _, by first | exact Kd.R_nil _ _ _ _ _ | exact Kd.N_nil _ _ _ _ _ | exact Kd.V_nil _ _ _ _ _ | exact Kd.Q_nil _ _ _ _ _ | exact Kd.S_nil _ _ _ _ _, by repeat (with_reducible first | exact HB.out | apply bA | apply bN | apply bD | refine bS ?_ GE451.out | refine bS ?_ GE452.out | refine bS ?_ GE453.out)⟩
def spec_ahText.l0 : Nat → ByteArray → List Int → Int → Int → Option (ByteArray)
 | 0, _, _, _, _ => none
 | k + 1, x3, x6, x7, x8 => if x8 < x7 then (if 0 ≤ x8 then (if x8 < (x6.length : Int) then (if (rd x6 x8) > x8 then (if x3.size + 1 ≤ 9223372036854775807 then (spec_ahText.l0 k (x3 ++ (⟨#[40]⟩ : ByteArray)) x6 x7 (wrap64 (x8 + 1))) else (none)) else (if x3.size + 1 ≤ 9223372036854775807 then (spec_ahText.l0 k (x3 ++ (⟨#[41]⟩ : ByteArray)) x6 x7 (wrap64 (x8 + 1))) else (none))) else (none)) else (none)) else (some x3)
def spec_ahText.f (k : Nat) (l0 : List Int) : Option (ByteArray) := spec_ahText.l0 k (⟨#[]⟩ : ByteArray) l0 (l0.length : Int) 0
theorem spec_ahText.mono_l : ∀ k, (∀ y0 y1 y2 y3, LeO (spec_ahText.l0 k y0 y1 y2 y3) (spec_ahText.l0 (k + 1) y0 y1 y2 y3))
 | 0 => fun _ _ _ _ r h => by simp [spec_ahText.l0] at h
 | k + 1 => by
  have ih0 := spec_ahText.mono_l k
  ·intro y0 y1 y2 y3
   unfold spec_ahText.l0
   repeat' first
    | (with_reducible first | exact ih0 _ _ _ _ | exact LeO.refl _ | exact LeO.none _ | refine LeO.ite ?_ ?_ | refine LeO.bind ?_ (fun _ => ?_))
    | exact LeO.none _
    | refine LeO.ite ?_ ?_
    | refine LeO.bind ?_ (fun _ => ?_)
theorem spec_ahText.mono : ∀ a0 k, LeO (spec_ahText.f k a0) (spec_ahText.f (k + 1) a0) := by
 intro a0 k
 have ih0 := spec_ahText.mono_l k
 unfold spec_ahText.f
 repeat' first
  | (with_reducible first | exact ih0 _ _ _ _ | exact LeO.refl _ | exact LeO.none _ | refine LeO.ite ?_ ?_ | refine LeO.bind ?_ (fun _ => ?_))
  | exact LeO.none _
  | refine LeO.ite ?_ ?_
  | refine LeO.bind ?_ (fun _ => ?_)
theorem spec_ahText.calls (k : Nat) (A0 : Option Addr) (c0 : Nat) (l0 : List Int) (r : ByteArray) (w : World) (hr0 : Kd.C (Kd.int .i64) w A0 l0.length l0) (hc0 : l0.length ≤ c0) (h : spec_ahText.f k l0 = some r) :
 Calls Try.prog 85 #[.slice A0 l0.length c0] w fun e w' => e = .returned (.string r) ∧ Drawn0 w w' := by
 have HR0 := am hr0
 have HC0 := am hc0
 clear hr0 hc0
 have H : (spec_ahText.l0 k (⟨#[]⟩ : ByteArray) l0 (l0.length : Int) 0) = some r := h
 clear h
 have H' := am H
 clear H
 go_enter Try.func85, Try.ntmps85
 go_wp2
 go_loopg [3, 8] k (fun kq v3 v8 w' => ∃ (x3_1 : ByteArray) (x8_1 : Int), v3 = .string x3_1 ∧ v8 = .int .i64 x8_1 ∧ Aside0 (spec_ahText.l0 kq x3_1 l0 (l0.length : Int) x8_1 = some r) ∧ Aside0 (kq ≤ k) ∧ Drawn0 w w')
 case atStart => exact ⟨((⟨#[]⟩ : ByteArray)), (0), (by first | rfl | (simp; done) | (simp [*]; done)), (by first | rfl | (simp; done) | (simp [*]; done)), H', ⟨Nat.le_refl _⟩, by repeat (first | exact Drawn0.refl _ | apply Drawn0.step)⟩
 case round =>
  clear H'
  obtain ⟨x3_1, x8_1, rfl, rfl, HA, HK1, ⟨m1, rfl⟩⟩ := hrel
  cases gk with
  | zero => exact absurd HA.out (by simp [spec_ahText.l0])
  | succ k1 =>
   have H := HA.out
   clear HA
   simp only [spec_ahText.l0] at H
   by_cases c2 : x8_1 < (l0.length : Int)
   ·rw [if_pos c2] at H
    have c2b0 : decide (x8_1 < (l0.length : Int)) = true := decide_eq_true c2
    clear c2
    by_cases c3 : 0 ≤ x8_1
    ·rw [if_pos c3] at H
     have c3b0 : decide (0 ≤ x8_1) = true := decide_eq_true c3
     clear c3
     by_cases c4 : x8_1 < (l0.length : Int)
     ·rw [if_pos c4] at H
      have c4b0 : decide (x8_1 < (l0.length : Int)) = true := decide_eq_true c4
      clear c4
      by_cases c5 : (rd l0 x8_1) > x8_1
      ·rw [if_pos c5] at H
       have c5b0 : decide (x8_1 < (rd l0 x8_1)) = true := decide_eq_true c5
       clear c5
       by_cases c6 : x3_1.size + 1 ≤ 9223372036854775807
       ·rw [if_pos c6] at H
        have c6b0 := eq_true c6
        have c6b1 : decide (x3_1.size + 1 ≤ 9223372036854775807) = true := decide_eq_true c6
        try have c6b2 : (9223372036854775807 < x3_1.size + 1) = False := eq_false (Nat.not_lt.2 c6)
        have H' := am H
        clear H
        have p464 : 0 ≤ (x8_1 : Int) := ofd (by assumption)
        have q464 : x8_1 < (l0.length : Int) := ofd (by assumption)
        obtain ⟨ad464, e464, hx464_0⟩ := Kd.at_int HR0.out x8_1 p464 q464
        cases e464
        replace p464 := eq_true p464
        replace q464 := eq_true q464
        go_wp2
        go_roundg k1
        case measure => have := HK1.out; omega
        case rel => exact ⟨(x3_1 ++ (⟨#[40]⟩ : ByteArray)), (wrap64 (x8_1 + 1)), (by first | rfl | (simp; done) | (simp [*]; done)), (by first | rfl | (simp; done) | (simp [*]; done)), H', ⟨by have := HK1.out; omega⟩, by repeat (first | exact Drawn0.refl _ | apply Drawn0.step)⟩
       ·rw [if_neg c6] at H
        exact absurd H (by simp)
      ·rw [if_neg c5] at H
       have c5b0 : decide (x8_1 < (rd l0 x8_1)) = false := decide_eq_false c5
       clear c5
       by_cases c7 : x3_1.size + 1 ≤ 9223372036854775807
       ·rw [if_pos c7] at H
        have c7b0 := eq_true c7
        have c7b1 : decide (x3_1.size + 1 ≤ 9223372036854775807) = true := decide_eq_true c7
        try have c7b2 : (9223372036854775807 < x3_1.size + 1) = False := eq_false (Nat.not_lt.2 c7)
        have H' := am H
        clear H
        have p464 : 0 ≤ (x8_1 : Int) := ofd (by assumption)
        have q464 : x8_1 < (l0.length : Int) := ofd (by assumption)
        obtain ⟨ad464, e464, hx464_0⟩ := Kd.at_int HR0.out x8_1 p464 q464
        cases e464
        replace p464 := eq_true p464
        replace q464 := eq_true q464
        go_wp2
        go_roundg k1
        case measure => have := HK1.out; omega
        case rel => exact ⟨(x3_1 ++ (⟨#[41]⟩ : ByteArray)), (wrap64 (x8_1 + 1)), (by first | rfl | (simp; done) | (simp [*]; done)), (by first | rfl | (simp; done) | (simp [*]; done)), H', ⟨by have := HK1.out; omega⟩, by repeat (first | exact Drawn0.refl _ | apply Drawn0.step)⟩
       ·rw [if_neg c7] at H
        exact absurd H (by simp)
     ·rw [if_neg c4] at H
      exact absurd H (by simp)
    ·rw [if_neg c3] at H
     exact absurd H (by simp)
   ·rw [if_neg c2] at H
    have c2b0 : decide (x8_1 < (l0.length : Int)) = false := decide_eq_false c2
    clear c2
    obtain rfl := Option.some.inj H
    go_wp2
    go_ret
    exact ⟨by first | rfl | (simp; done) | (simp [*]; done), by repeat (first | exact Drawn0.refl _ | apply Drawn0.step)⟩
def spec_meText.f (k : Nat) (l0_0 : List Int) (l0_1 : List Int) : Option (ByteArray) := (spec_ahText.f k l0_0).bind fun t466 => (if t466.size + 1 ≤ 9223372036854775807 then ((spec_ahText.f k l0_1).bind fun t467 => (if (t466 ++ (⟨#[124]⟩ : ByteArray)).size + t467.size ≤ 9223372036854775807 then (some ((t466 ++ (⟨#[124]⟩ : ByteArray)) ++ t467)) else (none))) else (none))
theorem spec_meText.calls (k : Nat) (A0_0 : Option Addr) (c0_0 : Nat) (l0_0 : List Int) (A0_1 : Option Addr) (c0_1 : Nat) (l0_1 : List Int) (r : ByteArray) (w : World) (hr0_0 : Kd.C (Kd.int .i64) w A0_0 l0_0.length l0_0) (hc0_0 : l0_0.length ≤ c0_0) (hr0_1 : Kd.C (Kd.int .i64) w A0_1 l0_1.length l0_1) (hc0_1 : l0_1.length ≤ c0_1) (h : spec_meText.f k l0_0 l0_1 = some r) :
 Calls Try.prog 66 #[.agg #[.slice A0_0 l0_0.length c0_0, .slice A0_1 l0_1.length c0_1]] w fun e w' => e = .returned (.string r) ∧ Below w.heap.size w w' := by
 have hu26 := Try.underlying26
 have HR0_0 := am hr0_0
 have HC0_0 := am hc0_0
 clear hr0_0 hc0_0
 have HR0_1 := am hr0_1
 have HC0_1 := am hc0_1
 clear hr0_1 hc0_1
 have HB := am (Below.refl w.heap.size w)
 have H : ((spec_ahText.f k l0_0).bind fun t466 => (if t466.size + 1 ≤ 9223372036854775807 then ((spec_ahText.f k l0_1).bind fun t467 => (if (t466 ++ (⟨#[124]⟩ : ByteArray)).size + t467.size ≤ 9223372036854775807 then (some ((t466 ++ (⟨#[124]⟩ : ByteArray)) ++ t467)) else (none))) else (none))) = some r := h
 clear h
 replace H := Option.bind_eq_some_iff.mp H
 obtain ⟨t466, A20, H⟩ := H
 replace H : (if t466.size + 1 ≤ 9223372036854775807 then ((spec_ahText.f k l0_1).bind fun t467 => (if (t466 ++ (⟨#[124]⟩ : ByteArray)).size + t467.size ≤ 9223372036854775807 then (some ((t466 ++ (⟨#[124]⟩ : ByteArray)) ++ t467)) else (none))) else (none)) = some r := H
 have A2 := am A20
 clear A20
 by_cases c3 : t466.size + 1 ≤ 9223372036854775807
 ·rw [if_pos c3] at H
  have c3b0 := eq_true c3
  have c3b1 : decide (t466.size + 1 ≤ 9223372036854775807) = true := decide_eq_true c3
  try have c3b2 : (9223372036854775807 < t466.size + 1) = False := eq_false (Nat.not_lt.2 c3)
  replace H := Option.bind_eq_some_iff.mp H
  obtain ⟨t467, A40, H⟩ := H
  replace H : (if (t466 ++ (⟨#[124]⟩ : ByteArray)).size + t467.size ≤ 9223372036854775807 then (some ((t466 ++ (⟨#[124]⟩ : ByteArray)) ++ t467)) else (none)) = some r := H
  have A4 := am A40
  clear A40
  by_cases c5 : (t466 ++ (⟨#[124]⟩ : ByteArray)).size + t467.size ≤ 9223372036854775807
  ·rw [if_pos c5] at H
   have c5b0 := eq_true c5
   have c5b1 : decide ((t466 ++ (⟨#[124]⟩ : ByteArray)).size + t467.size ≤ 9223372036854775807) = true := decide_eq_true c5
   try have c5b2 : (9223372036854775807 < (t466 ++ (⟨#[124]⟩ : ByteArray)).size + t467.size) = False := eq_false (Nat.not_lt.2 c5)
   have c5b3 : (9223372036854775807 < t466.size + 1 + t467.size) = False := eq_false (by have h0 := c5; rw [ByteArray.size_append] at h0; have h1 : (⟨#[124]⟩ : ByteArray).size = 1 := rfl; omega)
   obtain rfl := Option.some.inj H
   go_enter Try.func66, Try.ntmps66
   go_wp2_with (first | ((with_reducible refine gate_dst (N := 1) rfl ?_); refine box_event ?hg (N := 1) ?hd (cs := #[.slice A0_0 l0_0.length c0_0, .slice A0_1 l0_1.length c0_1]) (t := 26) ?hr ?_; (case hd => rfl); (case hg => rfl); (case hr => first | (go_simp; done) | (go_simp; rfl)); intro gb465 hg w6 hbox hb; have BK465 := am (hbox); have GW465 := am ((by rw [hg]; exact (below_size (by repeat (with_reducible first | exact HB.out | apply bA | apply bN | apply bD))) : w.heap.size ≤ gb465)); have GE465 := am ((by rw [hg]; exact (below_size (by repeat (with_reducible first | exact HB.out | apply bA | apply bN | apply bD))) : w.heap.size ≤ gb465)); replace HB := am (below_step (by repeat (with_reducible first | exact HB.out | apply bA | apply bN | apply bD)) hb); clear hb hbox hg; have hcz7_0 : w6.cell? ⟨gb465, 0, none⟩ = some (.slice A0_0 l0_0.length c0_0) := (blk_cell BK465.out 0).trans rfl; have hcz7_1 : w6.cell? ⟨gb465, 1, none⟩ = some (.slice A0_1 l0_1.length c0_1) := (blk_cell BK465.out 1).trans rfl; have hfz7_0 := blk_frozen BK465.out 0; have hfz7_1 := blk_frozen BK465.out 1) | (go_at_call 85; (with_reducible refine (spec_ahText.calls k _ _ l0_0 t466 _ ?side1 ?side2 A2.out).mono ?_); (case side1 => repeat (first | exact (Kd.C_below HR0_0.out HB.out) | (with_reducible first | apply cA | apply cN | apply cD))); (case side2 => exact HC0_0.out); rintro e w' ⟨rfl, ⟨nd, rfl⟩⟩; (try first | exact ⟨rfl, _, World.drewN_drewN _ _ _⟩ | exact ⟨rfl, _, Eq.trans (World.drewN_drewN _ _ _) (congrArg (World.drewN _) (Nat.add_assoc _ _ _))⟩)) | (go_at_call 85; (with_reducible refine (spec_ahText.calls k _ _ l0_1 t467 _ ?side1 ?side2 A4.out).mono ?_); (case side1 => repeat (first | exact (Kd.C_below HR0_1.out (by repeat (with_reducible first | exact HB.out | apply bA | apply bN | apply bD | refine bS ?_ GE465.out))) | (with_reducible first | apply cA | apply cN | apply cD))); (case side2 => exact HC0_1.out); rintro e w' ⟨rfl, ⟨nd, rfl⟩⟩; (try first | exact ⟨rfl, _, World.drewN_drewN _ _ _⟩ | exact ⟨rfl, _, Eq.trans (World.drewN_drewN _ _ _) (congrArg (World.drewN _) (Nat.add_assoc _ _ _))⟩)))
   repeat (go_quiet (first | ((with_reducible refine gate_dst (N := 1) rfl ?_); refine box_event ?hg (N := 1) ?hd (cs := #[.slice A0_0 l0_0.length c0_0, .slice A0_1 l0_1.length c0_1]) (t := 26) ?hr ?_; (case hd => rfl); (case hg => rfl); (case hr => first | (go_simp; done) | (go_simp; rfl)); intro gb465 hg w6 hbox hb; have BK465 := am (hbox); have GW465 := am ((by rw [hg]; exact (below_size (by repeat (with_reducible first | exact HB.out | apply bA | apply bN | apply bD))) : w.heap.size ≤ gb465)); have GE465 := am ((by rw [hg]; exact (below_size (by repeat (with_reducible first | exact HB.out | apply bA | apply bN | apply bD))) : w.heap.size ≤ gb465)); replace HB := am (below_step (by repeat (with_reducible first | exact HB.out | apply bA | apply bN | apply bD)) hb); clear hb hbox hg; have hcz7_0 : w6.cell? ⟨gb465, 0, none⟩ = some (.slice A0_0 l0_0.length c0_0) := (blk_cell BK465.out 0).trans rfl; have hcz7_1 : w6.cell? ⟨gb465, 1, none⟩ = some (.slice A0_1 l0_1.length c0_1) := (blk_cell BK465.out 1).trans rfl; have hfz7_0 := blk_frozen BK465.out 0; have hfz7_1 := blk_frozen BK465.out 1) | (go_at_call 85; (with_reducible refine (spec_ahText.calls k _ _ l0_0 t466 _ ?side1 ?side2 A2.out).mono ?_); (case side1 => repeat (first | exact (Kd.C_below HR0_0.out HB.out) | (with_reducible first | apply cA | apply cN | apply cD))); (case side2 => exact HC0_0.out); rintro e w' ⟨rfl, ⟨nd, rfl⟩⟩; (try first | exact ⟨rfl, _, World.drewN_drewN _ _ _⟩ | exact ⟨rfl, _, Eq.trans (World.drewN_drewN _ _ _) (congrArg (World.drewN _) (Nat.add_assoc _ _ _))⟩)) | (go_at_call 85; (with_reducible refine (spec_ahText.calls k _ _ l0_1 t467 _ ?side1 ?side2 A4.out).mono ?_); (case side1 => repeat (first | exact (Kd.C_below HR0_1.out (by repeat (with_reducible first | exact HB.out | apply bA | apply bN | apply bD | refine bS ?_ GE465.out))) | (with_reducible first | apply cA | apply cN | apply cD))); (case side2 => exact HC0_1.out); rintro e w' ⟨rfl, ⟨nd, rfl⟩⟩; (try first | exact ⟨rfl, _, World.drewN_drewN _ _ _⟩ | exact ⟨rfl, _, Eq.trans (World.drewN_drewN _ _ _) (congrArg (World.drewN _) (Nat.add_assoc _ _ _))⟩))); try go_wp2_with (first | ((with_reducible refine gate_dst (N := 1) rfl ?_); refine box_event ?hg (N := 1) ?hd (cs := #[.slice A0_0 l0_0.length c0_0, .slice A0_1 l0_1.length c0_1]) (t := 26) ?hr ?_; (case hd => rfl); (case hg => rfl); (case hr => first | (go_simp; done) | (go_simp; rfl)); intro gb465 hg w6 hbox hb; have BK465 := am (hbox); have GW465 := am ((by rw [hg]; exact (below_size (by repeat (with_reducible first | exact HB.out | apply bA | apply bN | apply bD))) : w.heap.size ≤ gb465)); have GE465 := am ((by rw [hg]; exact (below_size (by repeat (with_reducible first | exact HB.out | apply bA | apply bN | apply bD))) : w.heap.size ≤ gb465)); replace HB := am (below_step (by repeat (with_reducible first | exact HB.out | apply bA | apply bN | apply bD)) hb); clear hb hbox hg; have hcz7_0 : w6.cell? ⟨gb465, 0, none⟩ = some (.slice A0_0 l0_0.length c0_0) := (blk_cell BK465.out 0).trans rfl; have hcz7_1 : w6.cell? ⟨gb465, 1, none⟩ = some (.slice A0_1 l0_1.length c0_1) := (blk_cell BK465.out 1).trans rfl; have hfz7_0 := blk_frozen BK465.out 0; have hfz7_1 := blk_frozen BK465.out 1) | (go_at_call 85; (with_reducible refine (spec_ahText.calls k _ _ l0_0 t466 _ ?side1 ?side2 A2.out).mono ?_); (case side1 => repeat (first | exact (Kd.C_below HR0_0.out HB.out) | (with_reducible first | apply cA | apply cN | apply cD))); (case side2 => exact HC0_0.out); rintro e w' ⟨rfl, ⟨nd, rfl⟩⟩; (try first | exact ⟨rfl, _, World.drewN_drewN _ _ _⟩ | exact ⟨rfl, _, Eq.trans (World.drewN_drewN _ _ _) (congrArg (World.drewN _) (Nat.add_assoc _ _ _))⟩)) | (go_at_call 85; (with_reducible refine (spec_ahText.calls k _ _ l0_1 t467 _ ?side1 ?side2 A4.out).mono ?_); (case side1 => repeat (first | exact (Kd.C_below HR0_1.out (by repeat (with_reducible first | exact HB.out | apply bA | apply bN | apply bD | refine bS ?_ GE465.out))) | (with_reducible first | apply cA | apply cN | apply cD))); (case side2 => exact HC0_1.out); rintro e w' ⟨rfl, ⟨nd, rfl⟩⟩; (try first | exact ⟨rfl, _, World.drewN_drewN _ _ _⟩ | exact ⟨rfl, _, Eq.trans (World.drewN_drewN _ _ _) (congrArg (World.drewN _) (Nat.add_assoc _ _ _))⟩))))
   go_ret
   exact ⟨by first | rfl | (simp [*, errW_none, errW_some] <;> rfl), by repeat (with_reducible first | exact HB.out | apply bA | apply bN | apply bD | refine bS ?_ GE465.out)⟩
  ·rw [if_neg c5] at H
   exact absurd H (by simp)
 ·rw [if_neg c3] at H
  exact absurd H (by simp)
end Go.Proofs.Ytfencncopkeobaa.QFnPairsMoved
