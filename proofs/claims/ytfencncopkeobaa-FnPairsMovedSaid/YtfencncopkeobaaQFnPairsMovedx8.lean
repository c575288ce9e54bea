-- Written by wip/myprint.py (a program of mine round the kit's printer). Lean checks it.
import Derived.Test.YtfencncopkeobaaQFnPairsMovedx0
import Derived.Test.YtfencncopkeobaaQFnPairsMovedx1
import Derived.Test.YtfencncopkeobaaQFnPairsMovedx2
import Derived.Test.YtfencncopkeobaaQFnPairsMovedx4
import Derived.Test.YtfencncopkeobaaQFnPairsMovedx6
namespace Go.Proofs.Ytfencncopkeobaa.QFnPairsMoved
open Go.RowKit Go.Proofs.YtfencncopkeobaaW.PrintWords Go.Proofs.YtfencncopkeobaaW.PrintLast Go.Proofs.YtfencncopkeobaaW.PrintMore
attribute [local go_sem] max2_int min2_int max_two min_two max_three min_three max_four min_four
set_option linter.unusedVariables false
set_option linter.unusedSimpArgs false
set_option maxHeartbeats 8000000
set_option maxRecDepth 100000
def laws_sSame.l0 : Nat → List Int → List Int → Int → Int → Option (Bool)
 | 0, _, _, _, _ => none
 | k + 1, x0, x1, x12, x13 => if x13 < x12 then (if 0 ≤ x13 then (if x13 < (x0.length : Int) then (if x13 < (x1.length : Int) then (if (rd x0 x13) = (rd x1 x13) then (laws_sSame.l0 k x0 x1 x12 (wrap64 (x13 + 1))) else (some false)) else (none)) else (none)) else (none)) else (some true)
def laws_sSame.f (k : Nat) (l0 : List Int) (l1 : List Int) : Option (Bool) := if (l0.length : Int) = (l1.length : Int) then (laws_sSame.l0 k l0 l1 (l0.length : Int) 0) else (some false)
theorem laws_sSame.calls (k : Nat) (A0 : Option Addr) (c0 : Nat) (l0 : List Int) (A1 : Option Addr) (c1 : Nat) (l1 : List Int) (r : Bool) (w : World) (hr0 : Kd.C (Kd.int .i64) w A0 l0.length l0) (hc0 : l0.length ≤ c0) (hr1 : Kd.C (Kd.int .i64) w A1 l1.length l1) (hc1 : l1.length ≤ c1) (h : laws_sSame.f k l0 l1 = some r) :
 Calls Try.prog 13 #[.slice A0 l0.length c0, .slice A1 l1.length c1] w fun e w' => e = .returned (.bool r) ∧ Drawn0 w w' := by
 have HR0 := am hr0
 have HC0 := am hc0
 clear hr0 hc0
 have HR1 := am hr1
 have HC1 := am hc1
 clear hr1 hc1
 have H : (if (l0.length : Int) = (l1.length : Int) then (laws_sSame.l0 k l0 l1 (l0.length : Int) 0) else (some false)) = some r := h
 clear h
 by_cases c3 : (l0.length : Int) = (l1.length : Int)
 ·rw [if_pos c3] at H
  have c3b0 : ((l0.length : Int) == (l1.length : Int)) = true := beq_iff_eq.mpr c3
  have c3b1 : ((l0.length : Int) != (l1.length : Int)) = false := bne_eq_false_iff_eq.mpr c3
  have c3b2 : (l0.length == l1.length) = true := by first | simpa using c3 | (simp at c3 ⊢; omega)
  clear c3
  have H' := am H
  clear H
  go_enter Try.func13, Try.ntmps13
  go_wp2
  repeat (go_quiet (fail); try go_wp2)
  go_loopg [13] k (fun kq v13 w' => ∃ (x13_1 : Int), v13 = .int .i64 x13_1 ∧ Aside0 (laws_sSame.l0 kq l0 l1 (l0.length : Int) x13_1 = some r) ∧ Aside0 (kq ≤ k) ∧ Drawn0 w w')
  case atStart => exact ⟨(0), (by first | rfl | (simp; done) | (simp [*]; done)), H', ⟨Nat.le_refl _⟩, by repeat (first | exact Drawn0.refl _ | apply Drawn0.step)⟩
  case round =>
   clear H'
   try clear p2
   obtain ⟨x13_1, rfl, HA, HK1, ⟨m1, rfl⟩⟩ := hrel
   cases gk with
   | zero => exact absurd HA.out (by simp [laws_sSame.l0])
   | succ k1 =>
    have H := HA.out
    clear HA
    simp only [laws_sSame.l0] at H
    by_cases c4 : x13_1 < (l0.length : Int)
    ·rw [if_pos c4] at H
     have c4b0 : decide (x13_1 < (l0.length : Int)) = true := decide_eq_true c4
     clear c4
     by_cases c5 : 0 ≤ x13_1
     ·rw [if_pos c5] at H
      have c5b0 : decide (0 ≤ x13_1) = true := decide_eq_true c5
      clear c5
      by_cases c6 : x13_1 < (l0.length : Int)
      ·rw [if_pos c6] at H
       have c6b0 : decide (x13_1 < (l0.length : Int)) = true := decide_eq_true c6
       clear c6
       by_cases c7 : x13_1 < (l1.length : Int)
       ·rw [if_pos c7] at H
        have c7b0 : decide (x13_1 < (l1.length : Int)) = true := decide_eq_true c7
        clear c7
        by_cases c8 : (rd l0 x13_1) = (rd l1 x13_1)
        ·rw [if_pos c8] at H
         have c8b0 : ((rd l0 x13_1) == (rd l1 x13_1)) = true := beq_iff_eq.mpr c8
         have c8b1 : ((rd l0 x13_1) != (rd l1 x13_1)) = false := bne_eq_false_iff_eq.mpr c8
         clear c8
         have H' := am H
         clear H
         have p394 : 0 ≤ (x13_1 : Int) := ofd (by assumption)
         have q394 : x13_1 < (l0.length : Int) := ofd (by assumption)
         obtain ⟨ad394, e394, hx394_0⟩ := Kd.at_int HR0.out x13_1 p394 q394
         cases e394
         replace p394 := eq_true p394
         replace q394 := eq_true q394
         have p395 : 0 ≤ (x13_1 : Int) := ofd (by assumption)
         have q395 : x13_1 < (l1.length : Int) := ofd (by assumption)
         obtain ⟨ad395, e395, hx395_0⟩ := Kd.at_int HR1.out x13_1 p395 q395
         cases e395
         replace p395 := eq_true p395
         replace q395 := eq_true q395
         go_wp2
         repeat (go_quiet (fail); try go_wp2)
         go_roundg k1
         case measure => have := HK1.out; omega
         case rel => exact ⟨(wrap64 (x13_1 + 1)), (by first | rfl | (simp; done) | (simp [*]; done)), H', ⟨by have := HK1.out; omega⟩, by repeat (first | exact Drawn0.refl _ | apply Drawn0.step)⟩
        ·rw [if_neg c8] at H
         have c8b0 : ((rd l0 x13_1) == (rd l1 x13_1)) = false := beq_eq_false_iff_ne.mpr c8
         have c8b1 : ((rd l0 x13_1) != (rd l1 x13_1)) = true := bne_iff_ne.mpr c8
         obtain rfl := Option.some.inj H
         have p394 : 0 ≤ (x13_1 : Int) := ofd (by assumption)
         have q394 : x13_1 < (l0.length : Int) := ofd (by assumption)
         obtain ⟨ad394, e394, hx394_0⟩ := Kd.at_int HR0.out x13_1 p394 q394
         cases e394
         replace p394 := eq_true p394
         replace q394 := eq_true q394
         have p395 : 0 ≤ (x13_1 : Int) := ofd (by assumption)
         have q395 : x13_1 < (l1.length : Int) := ofd (by assumption)
         obtain ⟨ad395, e395, hx395_0⟩ := Kd.at_int HR1.out x13_1 p395 q395
         cases e395
         replace p395 := eq_true p395
         replace q395 := eq_true q395
         go_wp2
         repeat (go_quiet (fail); try go_wp2)
         go_ret
         exact ⟨by first | rfl | (simp; done) | (simp [*]; done), by repeat (first | exact Drawn0.refl _ | apply Drawn0.step)⟩
       ·rw [if_neg c7] at H
        exact absurd H (by simp)
      ·rw [if_neg c6] at H
       exact absurd H (by simp)
     ·rw [if_neg c5] at H
      exact absurd H (by simp)
    ·rw [if_neg c4] at H
     have c4b0 : decide (x13_1 < (l0.length : Int)) = false := decide_eq_false c4
     clear c4
     obtain rfl := Option.some.inj H
     go_wp2
     repeat (go_quiet (fail); try go_wp2)
     go_ret
     exact ⟨by first | rfl | (simp; done) | (simp [*]; done), by repeat (first | exact Drawn0.refl _ | apply Drawn0.step)⟩
 ·rw [if_neg c3] at H
  have c3b0 : ((l0.length : Int) == (l1.length : Int)) = false := beq_eq_false_iff_ne.mpr c3
  have c3b1 : ((l0.length : Int) != (l1.length : Int)) = true := bne_iff_ne.mpr c3
  have c3b2 : (l0.length == l1.length) = false := by first | simpa using c3 | (simp at c3 ⊢; omega)
  obtain rfl := Option.some.inj H
  go_enter Try.func13, Try.ntmps13
  go_wp2
  repeat (go_quiet (fail); try go_wp2)
  go_ret
  exact ⟨by first | rfl | (simp; done) | (simp [*]; done), by repeat (first | exact Drawn0.refl _ | apply Drawn0.step)⟩
def laws_sSamePair.f (k : Nat) (l0_0 : List Int) (l0_1 : List Int) (l1_0 : List Int) (l1_1 : List Int) : Option (Bool) := (laws_sSame.f k l0_0 l1_0).bind fun t398 => (if t398 = true then ((laws_sSame.f k l0_1 l1_1).bind fun t399 => (some t399)) else (some false))
theorem laws_sSamePair.calls (k : Nat) (A0_0 : Option Addr) (c0_0 : Nat) (l0_0 : List Int) (A0_1 : Option Addr) (c0_1 : Nat) (l0_1 : List Int) (A1_0 : Option Addr) (c1_0 : Nat) (l1_0 : List Int) (A1_1 : Option Addr) (c1_1 : Nat) (l1_1 : List Int) (r : Bool) (w : World) (hr0_0 : Kd.C (Kd.int .i64) w A0_0 l0_0.length l0_0) (hc0_0 : l0_0.length ≤ c0_0) (hr0_1 : Kd.C (Kd.int .i64) w A0_1 l0_1.length l0_1) (hc0_1 : l0_1.length ≤ c0_1) (hr1_0 : Kd.C (Kd.int .i64) w A1_0 l1_0.length l1_0) (hc1_0 : l1_0.length ≤ c1_0) (hr1_1 : Kd.C (Kd.int .i64) w A1_1 l1_1.length l1_1) (hc1_1 : l1_1.length ≤ c1_1) (h : laws_sSamePair.f k l0_0 l0_1 l1_0 l1_1 = some r) :
 Calls Try.prog 29 #[.agg #[.slice A0_0 l0_0.length c0_0, .slice A0_1 l0_1.length c0_1], .agg #[.slice A1_0 l1_0.length c1_0, .slice A1_1 l1_1.length c1_1]] w fun e w' => e = .returned (.bool r) ∧ Below w.heap.size w w' := by
 have hu26 := Try.underlying26
 have HR0_0 := am hr0_0
 have HC0_0 := am hc0_0
 clear hr0_0 hc0_0
 have HR0_1 := am hr0_1
 have HC0_1 := am hc0_1
 clear hr0_1 hc0_1
 have HR1_0 := am hr1_0
 have HC1_0 := am hc1_0
 clear hr1_0 hc1_0
 have HR1_1 := am hr1_1
 have HC1_1 := am hc1_1
 clear hr1_1 hc1_1
 have HB := am (Below.refl w.heap.size w)
 have H : ((laws_sSame.f k l0_0 l1_0).bind fun t398 => (if t398 = true then ((laws_sSame.f k l0_1 l1_1).bind fun t399 => (some t399)) else (some false))) = some r := h
 clear h
 replace H := Option.bind_eq_some_iff.mp H
 obtain ⟨t398, A30, H⟩ := H
 replace H : (if t398 = true then ((laws_sSame.f k l0_1 l1_1).bind fun t399 => (some t399)) else (some false)) = some r := H
 have A3 := am A30
 clear A30
 by_cases c4 : t398 = true
 ·subst c4
  have H1 : ((laws_sSame.f k l0_1 l1_1).bind fun t399 => (some t399)) = some r := by rw [if_pos rfl] at H; exact H
  clear H
  have H := H1
  clear H1
  replace H := Option.bind_eq_some_iff.mp H
  obtain ⟨t399, A50, H⟩ := H
  replace H : (some t399) = some r := H
  have A5 := am A50
  clear A50
  obtain rfl := Option.some.inj H
  go_enter Try.func29, Try.ntmps29
  go_wp2_with (first | ((with_reducible refine gate_dst (N := 2) rfl ?_); refine box_event ?hg (N := 2) ?hd (cs := #[.slice A0_0 l0_0.length c0_0, .slice A0_1 l0_1.length c0_1]) (t := 26) ?hr ?_; (case hd => rfl); (case hg => rfl); (case hr => first | (go_simp; done) | (go_simp; rfl)); intro gb396 hg w6 hbox hb; have BK396 := am (hbox); have GW396 := am ((by rw [hg]; exact (below_size (by repeat (with_reducible first | exact HB.out | apply bA | apply bN | apply bD))) : w.heap.size ≤ gb396)); have GE396 := am ((by rw [hg]; exact (below_size (by repeat (with_reducible first | exact HB.out | apply bA | apply bN | apply bD))) : w.heap.size ≤ gb396)); replace HB := am (below_step (by repeat (with_reducible first | exact HB.out | apply bA | apply bN | apply bD)) hb); clear hb hbox hg) | ((with_reducible refine gate_dst (N := 3) rfl ?_); refine box_event ?hg (N := 3) ?hd (cs := #[.slice A1_0 l1_0.length c1_0, .slice A1_1 l1_1.length c1_1]) (t := 26) ?hr ?_; (case hd => rfl); (case hg => rfl); (case hr => first | (go_simp; done) | (go_simp; rfl)); intro gb397 hg w7 hbox hb; have BK397 := am (hbox); have GW397 := am ((by rw [hg]; exact (below_size (by repeat (with_reducible first | exact HB.out | apply bA | apply bN | apply bD | refine bS ?_ GE396.out))) : w.heap.size ≤ gb397)); have GE397 := am ((by rw [hg]; exact (below_size (by repeat (with_reducible first | exact HB.out | apply bA | apply bN | apply bD | refine bS ?_ GE396.out))) : w.heap.size ≤ gb397)); replace HB := am (below_step (by repeat (with_reducible first | exact HB.out | apply bA | apply bN | apply bD | refine bS ?_ GE396.out)) hb); have NB396_397 := am ((by rw [hg]; exact Nat.ne_of_lt (blk_lt (g := gb396) (by (with_reducible repeat (first | apply kB | apply kC | apply kE)); exact BK396.out)) : gb396 ≠ gb397)); have NB397_396 := am ((by rw [hg]; exact Nat.ne_of_gt (blk_lt (g := gb396) (by (with_reducible repeat (first | apply kB | apply kC | apply kE)); exact BK396.out)) : gb397 ≠ gb396)); replace BK396 := am (blk_below (g := gb396) (by (with_reducible repeat (first | apply kB | apply kC | apply kE)); exact BK396.out) hb); clear hb hbox hg; have hnb8 := NB396_397.out; have hnc8 := NB397_396.out; have hcz9_0 : w7.cell? ⟨gb396, 0, none⟩ = some (.slice A0_0 l0_0.length c0_0) := (blk_cell BK396.out 0).trans rfl; have hcz9_1 : w7.cell? ⟨gb396, 1, none⟩ = some (.slice A0_1 l0_1.length c0_1) := (blk_cell BK396.out 1).trans rfl; have hfz9_0 := blk_frozen BK396.out 0; have hfz9_1 := blk_frozen BK396.out 1; have hcz10_0 : w7.cell? ⟨gb397, 0, none⟩ = some (.slice A1_0 l1_0.length c1_0) := (blk_cell BK397.out 0).trans rfl; have hcz10_1 : w7.cell? ⟨gb397, 1, none⟩ = some (.slice A1_1 l1_1.length c1_1) := (blk_cell BK397.out 1).trans rfl; have hfz10_0 := blk_frozen BK397.out 0; have hfz10_1 := blk_frozen BK397.out 1) | ((with_reducible refine gate_callee (f := 13) rfl ?_); refine goesL_ (some 9) rfl rfl Try.func13 (by kernel_rfl) rfl #[.slice A0_0 l0_0.length c0_0, .slice A1_0 l1_0.length c1_0] rfl (by (try simp only [mT, mC, mZ]); first | done | rfl) ?_; (with_reducible refine (laws_sSame.calls k _ _ l0_0 _ _ l1_0 true _ ?side1 ?side2 ?side3 ?side4 A3.out).mono ?_); (case side1 => repeat (first | exact (Kd.C_below HR0_0.out HB.out) | (with_reducible first | apply cA | apply cN | apply cD))); (case side2 => exact HC0_0.out); (case side3 => repeat (first | exact (Kd.C_below HR1_0.out HB.out) | (with_reducible first | apply cA | apply cN | apply cD))); (case side4 => exact HC1_0.out); rintro e w' ⟨rfl, ⟨nd, rfl⟩⟩; refine ⟨_, rfl, ?_⟩) | (go_at_call 13; (with_reducible refine (laws_sSame.calls k _ _ l0_1 _ _ l1_1 t399 _ ?side1 ?side2 ?side3 ?side4 A5.out).mono ?_); (case side1 => repeat (first | exact (Kd.C_below HR0_1.out (by repeat (with_reducible first | exact HB.out | apply bA | apply bN | apply bD | refine bS ?_ GE396.out | refine bS ?_ GE397.out))) | (with_reducible first | apply cA | apply cN | apply cD))); (case side2 => exact HC0_1.out); (case side3 => repeat (first | exact (Kd.C_below HR1_1.out (by repeat (with_reducible first | exact HB.out | apply bA | apply bN | apply bD | refine bS ?_ GE396.out | refine bS ?_ GE397.out))) | (with_reducible first | apply cA | apply cN | apply cD))); (case side4 => exact HC1_1.out); rintro e w' ⟨rfl, ⟨nd, rfl⟩⟩))
  go_ret
  exact ⟨by first | rfl | (simp [*, errW_none, errW_some] <;> rfl), by repeat (with_reducible first | exact HB.out | apply bA | apply bN | apply bD | refine bS ?_ GE396.out | refine bS ?_ GE397.out)⟩
 ·replace c4 := Bool.eq_false_iff.mpr c4
  subst c4
  have H1 : (some false) = some r := by rw [if_neg (show ¬ (false = true) by decide)] at H; exact H
  clear H
  have H := H1
  clear H1
  obtain rfl := Option.some.inj H
  go_enter Try.func29, Try.ntmps29
  go_wp2_with (first | ((with_reducible refine gate_dst (N := 2) rfl ?_); refine box_event ?hg (N := 2) ?hd (cs := #[.slice A0_0 l0_0.length c0_0, .slice A0_1 l0_1.length c0_1]) (t := 26) ?hr ?_; (case hd => rfl); (case hg => rfl); (case hr => first | (go_simp; done) | (go_simp; rfl)); intro gb396 hg w11 hbox hb; have BK396 := am (hbox); have GW396 := am ((by rw [hg]; exact (below_size (by repeat (with_reducible first | exact HB.out | apply bA | apply bN | apply bD))) : w.heap.size ≤ gb396)); have GE396 := am ((by rw [hg]; exact (below_size (by repeat (with_reducible first | exact HB.out | apply bA | apply bN | apply bD))) : w.heap.size ≤ gb396)); replace HB := am (below_step (by repeat (with_reducible first | exact HB.out | apply bA | apply bN | apply bD)) hb); clear hb hbox hg) | ((with_reducible refine gate_dst (N := 3) rfl ?_); refine box_event ?hg (N := 3) ?hd (cs := #[.slice A1_0 l1_0.length c1_0, .slice A1_1 l1_1.length c1_1]) (t := 26) ?hr ?_; (case hd => rfl); (case hg => rfl); (case hr => first | (go_simp; done) | (go_simp; rfl)); intro gb397 hg w12 hbox hb; have BK397 := am (hbox); have GW397 := am ((by rw [hg]; exact (below_size (by repeat (with_reducible first | exact HB.out | apply bA | apply bN | apply bD | refine bS ?_ GE396.out))) : w.heap.size ≤ gb397)); have GE397 := am ((by rw [hg]; exact (below_size (by repeat (with_reducible first | exact HB.out | apply bA | apply bN | apply bD | refine bS ?_ GE396.out))) : w.heap.size ≤ gb397)); replace HB := am (below_step (by repeat (with_reducible first | exact HB.out | apply bA | apply bN | apply bD | refine bS ?_ GE396.out)) hb); have NB396_397 := am ((by rw [hg]; exact Nat.ne_of_lt (blk_lt (g := gb396) (by (with_reducible repeat (first | apply kB | apply kC | apply kE)); exact BK396.out)) : gb396 ≠ gb397)); have NB397_396 := am ((by rw [hg]; exact Nat.ne_of_gt (blk_lt (g := gb396) (by (with_reducible repeat (first | apply kB | apply kC | apply kE)); exact BK396.out)) : gb397 ≠ gb396)); replace BK396 := am (blk_below (g := gb396) (by (with_reducible repeat (first | apply kB | apply kC | apply kE)); exact BK396.out) hb); clear hb hbox hg; have hnb13 := NB396_397.out; have hnc13 := NB397_396.out; have hcz14_0 : w12.cell? ⟨gb396, 0, none⟩ = some (.slice A0_0 l0_0.length c0_0) := (blk_cell BK396.out 0).trans rfl; have hcz14_1 : w12.cell? ⟨gb396, 1, none⟩ = some (.slice A0_1 l0_1.length c0_1) := (blk_cell BK396.out 1).trans rfl; have hfz14_0 := blk_frozen BK396.out 0; have hfz14_1 := blk_frozen BK396.out 1; have hcz15_0 : w12.cell? ⟨gb397, 0, none⟩ = some (.slice A1_0 l1_0.length c1_0) := (blk_cell BK397.out 0).trans rfl; have hcz15_1 : w12.cell? ⟨gb397, 1, none⟩ = some (.slice A1_1 l1_1.length c1_1) := (blk_cell BK397.out 1).trans rfl; have hfz15_0 := blk_frozen BK397.out 0; have hfz15_1 := blk_frozen BK397.out 1) | ((with_reducible refine gate_callee (f := 13) rfl ?_); refine goesL_ (some 9) rfl rfl Try.func13 (by kernel_rfl) rfl #[.slice A0_0 l0_0.length c0_0, .slice A1_0 l1_0.length c1_0] rfl (by (try simp only [mT, mC, mZ]); first | done | rfl) ?_; (with_reducible refine (laws_sSame.calls k _ _ l0_0 _ _ l1_0 false _ ?side1 ?side2 ?side3 ?side4 A3.out).mono ?_); (case side1 => repeat (first | exact (Kd.C_below HR0_0.out HB.out) | (with_reducible first | apply cA | apply cN | apply cD))); (case side2 => exact HC0_0.out); (case side3 => repeat (first | exact (Kd.C_below HR1_0.out HB.out) | (with_reducible first | apply cA | apply cN | apply cD))); (case side4 => exact HC1_0.out); rintro e w' ⟨rfl, ⟨nd, rfl⟩⟩; refine ⟨_, rfl, ?_⟩))
  go_ret
  exact ⟨by first | rfl | (simp [*, errW_none, errW_some] <;> rfl), by repeat (with_reducible first | exact HB.out | apply bA | apply bN | apply bD | refine bS ?_ GE396.out | refine bS ?_ GE397.out)⟩
def spec_DrawJoinMeanders_m.f (k : Nat) (s0_0 : List Int) (s0_1 : Int) (s0_2 : Int) : Option (List Int × List Int × List Int × List Int × Int × Int) := (spec_l1Cur_pair.f k s0_0 s0_1 s0_2 4).bind fun bt402 => ((spec_l1Cur_pair.f k s0_0 bt402.2.2.1 bt402.2.2.2 4).bind fun bt410 => (some (bt402.1, bt402.2.1, bt410.1, bt410.2.1, bt410.2.2.1, bt410.2.2.2)))
def spec_DrawJoinMeanders.f (k : Nat) (l0 : List Int) : Option (List Int × List Int × List Int × List Int) := (spec_DrawJoinMeanders_m.f k l0 0 0).bind fun t => some (t.1, t.2.1, t.2.2.1, t.2.2.2.1)
theorem spec_DrawJoinMeanders.calls (k : Nat) (A0 : Option Addr) (c0 : Nat) (s0_0 : List Int) (z_r1 : List Int) (z_r2 : List Int) (z_r3 : List Int) (z_r4 : List Int) (w : World) (hr0 : Kd.C (Kd.int .u8) w A0 s0_0.length s0_0) (hc0 : s0_0.length ≤ c0) (h : spec_DrawJoinMeanders.f k s0_0 = some (z_r1, z_r2, z_r3, z_r4)) :
 Calls Try.prog 30 #[.slice A0 s0_0.length c0] w fun e w' => ∃ v0_ v1_ v2_ v3_ : Value, e = .returned (.tuple #[.agg #[v0_, v1_], .agg #[v2_, v3_]]) ∧ Kd.R (Kd.int .i64) 3 w' w.heap.size (fun k_ => some k_ ≠ (v1_ : Value).ownBlock ∧ some k_ ≠ (v2_ : Value).ownBlock ∧ some k_ ≠ (v3_ : Value).ownBlock) v0_ z_r1 ∧ Kd.R (Kd.int .i64) 3 w' w.heap.size (fun k_ => some k_ ≠ (v0_ : Value).ownBlock ∧ some k_ ≠ (v2_ : Value).ownBlock ∧ some k_ ≠ (v3_ : Value).ownBlock) v1_ z_r2 ∧ Kd.R (Kd.int .i64) 3 w' w.heap.size (fun k_ => some k_ ≠ (v0_ : Value).ownBlock ∧ some k_ ≠ (v1_ : Value).ownBlock ∧ some k_ ≠ (v3_ : Value).ownBlock) v2_ z_r3 ∧ Kd.R (Kd.int .i64) 3 w' w.heap.size (fun k_ => some k_ ≠ (v0_ : Value).ownBlock ∧ some k_ ≠ (v1_ : Value).ownBlock ∧ some k_ ≠ (v2_ : Value).ownBlock) v3_ z_r4 ∧ Below w.heap.size w w' := by
 unfold spec_DrawJoinMeanders.f at h
 obtain ⟨⟨r1, r2, r3, r4, r5, r6⟩, hm_, hx⟩ := Option.bind_eq_some_iff.mp h
 clear h
 simp only [Option.some.injEq, Prod.mk.injEq] at hx
 obtain ⟨rfl, rfl, rfl, rfl⟩ := hx
 have h := hm_
 clear hm_
 go_enter Try.func30, Try.ntmps30
 go_upto_region 1 with (first | ((with_reducible refine gate_dst (N := 2) rfl ?_); refine box_event ?hg (N := 2) ?hd (cs := #[.slice none 0 0, .slice none 0 0]) (t := 26) ?hr ?_; (case hd => rfl); (case hg => rfl); (case hr => first | (go_simp; done) | (go_simp; rfl)); intro gb400 hg w3_ hbox hb; have HGE_ := am (show w.heap.size ≤ gb400 from by rw [hg]; exact Nat.le_refl _); have HBO_ := am hbox; have HBE_ := am hb; clear hbox hb hg) | ((with_reducible refine gate_dst (N := 3) rfl ?_); refine box_event ?hg (N := 3) ?hd (cs := #[.slice none 0 0, .slice none 0 0]) (t := 26) ?hr ?_; (case hd => rfl); (case hg => rfl); (case hr => first | (go_simp; done) | (go_simp; rfl)); intro gb401 hg w4_ hbox hb; have HGE2_ := am (show w.heap.size ≤ gb401 from by rw [hg]; exact HBE_.out.size); have HN_ := am (show gb400 ≠ gb401 from by rw [hg]; exact Nat.ne_of_lt (Array.getElem?_eq_some_iff.1 HBO_.out).1); have HBO2_ := am hbox; have n1_ := am (blk_below HBO_.out hb); have n2_ := am (below_step HBE_.out hb); clear HBO_ HBE_; have HBO_ := n1_; have HBE_ := n2_; clear n1_ n2_ hbox hb hg))
 go_upto_region 2 with (fail)
 have hb := HBE_.out
 have hbox := HBO_.out
 clear HBE_ HBO_
 have HBX : Below w.heap.size w (w4_.alloc (.cells #[.slice A0 s0_0.length c0, .int .i64 0, .int .u64 0] 64)) := below_alloc hb _
 have HIX : IsS64 w (w4_.alloc (.cells #[.slice A0 s0_0.length c0, .int .i64 0, .int .u64 0] 64)) w4_.heap.size s0_0 0 0 := ⟨A0, c0, (by first | (simp [World.alloc]; done) | exact Array.getElem?_push_size), hb.size, hr0⟩
 have HBK := kE hbox (.cells #[.slice A0 s0_0.length c0, .int .i64 0, .int .u64 0] 64 (0, 0))
 have HNB : w4_.heap.size ≠ gb400 := Nat.ne_of_gt (Array.getElem?_eq_some_iff.1 hbox).1
 have HBK2 := kE HBO2_.out (.cells #[.slice A0 s0_0.length c0, .int .i64 0, .int .u64 0] 64 (0, 0))
 have HNB2 : w4_.heap.size ≠ gb401 := Nat.ne_of_gt (Array.getElem?_eq_some_iff.1 HBO2_.out).1
 clear HBO2_
 generalize (w4_.alloc (.cells #[.slice A0 s0_0.length c0, .int .i64 0, .int .u64 0] 64)) = wb at HBX HIX HBK HBK2 ⊢
 generalize w4_.heap.size = gs at HIX HNB HNB2 ⊢
 have HI0 := am HIX
 have HK := am (KeepBut.refl wb gs none)
 have HL := am HBX.size
 have HW0 := am HBX.size
 have HBXS : Aside0 (w.heap.size ≤ wb.heap.size) := ⟨HBX.size⟩
 have HB := am HBX
 have BK400 := am HBK
 have GE400 := HGE_
 have NB0_400 := am HNB
 have NB400_0 := am (Ne.symm HNB)
 clear HBX HIX HBK HGE_ HNB hbox hb
 have BK401 := am HBK2
 have GE401 := HGE2_
 have NB0_401 := am HNB2
 have NB401_0 := am (Ne.symm HNB2)
 have NB400_401 := HN_
 have NB401_400 := am (Ne.symm HN_.out)
 clear HBK2 HNB2 HGE2_ HN_
 have H : ((spec_l1Cur_pair.f k s0_0 0 0 4).bind fun bt402 => ((spec_l1Cur_pair.f k s0_0 bt402.2.2.1 bt402.2.2.2 4).bind fun bt410 => (some (bt402.1, bt402.2.1, bt410.1, bt410.2.1, bt410.2.2.1, bt410.2.2.2)))) = some (r1, r2, r3, r4, r5, r6) := h
 clear h
 replace H := Option.bind_eq_some_iff.mp H
 obtain ⟨⟨t402, t405, t408, t409⟩, A20, H⟩ := H
 replace H : ((spec_l1Cur_pair.f k s0_0 t408 t409 4).bind fun bt410 => (some (t402, t405, bt410.1, bt410.2.1, bt410.2.2.1, bt410.2.2.2))) = some (r1, r2, r3, r4, r5, r6) := H
 have A2 := am A20
 clear A20
 replace H := Option.bind_eq_some_iff.mp H
 obtain ⟨⟨t410, t413, t416, t417⟩, A30, H⟩ := H
 replace H : (some (t402, t405, t410, t413, t416, t417)) = some (r1, r2, r3, r4, r5, r6) := H
 have A3 := am A30
 clear A30
 simp only [Option.some.injEq, Prod.mk.injEq] at H
 obtain ⟨rfl, rfl, rfl, rfl, rfl, rfl⟩ := H
 go_wp2_with (first | ((with_reducible refine gate_dst (N := 2) rfl ?_); refine box_event ?hg (N := 2) ?hd (cs := #[.slice none 0 0, .slice none 0 0]) (t := 26) ?hr ?_; (case hd => rfl); (case hg => rfl); (case hr => first | (go_simp; done) | (go_simp; rfl)); intro gb400 hg w4 hbox hb; replace HB := am (below_step (by repeat (with_reducible first | exact HB.out | apply bA | apply bN | apply bD | refine bS ?_ (iG HI0.out))) hb); have BK400 := am (hbox); have GW400 := am ((by rw [hg]; exact (keep_size (w := wb) (g := gs) (row := none) (by repeat (first | exact HK.out | apply kS | apply kN | apply kD | apply kA))) : wb.heap.size ≤ gb400)); have GE400 := am ((Nat.le_trans HW0.out (by rw [hg]; exact (keep_size (w := wb) (g := gs) (row := none) (by repeat (first | exact HK.out | apply kS | apply kN | apply kD | apply kA))) : wb.heap.size ≤ gb400) : w.heap.size ≤ gb400)); replace HK := am (KeepBut.trans (by repeat (first | exact HK.out | apply kS | apply kN | apply kD | apply kA)) (KeepBut.of_below hb gs none) (.inl rfl)); have NB0_400 := am ((by rw [hg]; exact Nat.ne_of_lt (IsS64.lt (show IsS64 w _ gs s0_0 0 0 from by repeat (first | exact HI0.out | apply iA | apply iN | apply iD | apply i1 | apply i2))) : gs ≠ gb400)); have NB400_0 := am ((by rw [hg]; exact Nat.ne_of_gt (IsS64.lt (show IsS64 w _ gs s0_0 0 0 from by repeat (first | exact HI0.out | apply iA | apply iN | apply iD | apply i1 | apply i2))) : gb400 ≠ gs)); replace HI0 := am (IsS64.below (by repeat (first | exact HI0.out | apply iA | apply iN | apply iD | apply i1 | apply i2)) hb); clear hb hbox hg) | ((with_reducible refine gate_dst (N := 3) rfl ?_); refine box_event ?hg (N := 3) ?hd (cs := #[.slice none 0 0, .slice none 0 0]) (t := 26) ?hr ?_; (case hd => rfl); (case hg => rfl); (case hr => first | (go_simp; done) | (go_simp; rfl)); intro gb401 hg w5 hbox hb; replace HB := am (below_step (by repeat (with_reducible first | exact HB.out | apply bA | apply bN | apply bD | refine bS ?_ (iG HI0.out) | refine bS ?_ GE400.out)) hb); have BK401 := am (hbox); have GW401 := am ((by rw [hg]; exact (keep_size (w := wb) (g := gs) (row := none) (by repeat (first | exact HK.out | apply kS | apply kN | apply kD | apply kA | refine keep_far ?_ GW400.out _))) : wb.heap.size ≤ gb401)); have GE401 := am ((Nat.le_trans HW0.out (by rw [hg]; exact (keep_size (w := wb) (g := gs) (row := none) (by repeat (first | exact HK.out | apply kS | apply kN | apply kD | apply kA | refine keep_far ?_ GW400.out _))) : wb.heap.size ≤ gb401) : w.heap.size ≤ gb401)); replace HK := am (KeepBut.trans (by repeat (first | exact HK.out | apply kS | apply kN | apply kD | apply kA | refine keep_far ?_ GW400.out _)) (KeepBut.of_below hb gs none) (.inl rfl)); have NB400_401 := am ((by rw [hg]; exact Nat.ne_of_lt (blk_lt (g := gb400) (by (with_reducible repeat (first | apply kB | apply kC | apply kE)); exact BK400.out)) : gb400 ≠ gb401)); have NB401_400 := am ((by rw [hg]; exact Nat.ne_of_gt (blk_lt (g := gb400) (by (with_reducible repeat (first | apply kB | apply kC | apply kE)); exact BK400.out)) : gb401 ≠ gb400)); replace BK400 := am (blk_below (g := gb400) (by (with_reducible repeat (first | apply kB | apply kC | apply kE)); exact BK400.out) hb); have NB0_401 := am ((by rw [hg]; exact Nat.ne_of_lt (IsS64.lt (show IsS64 w _ gs s0_0 0 0 from by repeat (first | exact HI0.out | apply iA | apply iN | apply iD | apply i1 | apply i2 | refine IsS64.far ?_ NB0_400.out _))) : gs ≠ gb401)); have NB401_0 := am ((by rw [hg]; exact Nat.ne_of_gt (IsS64.lt (show IsS64 w _ gs s0_0 0 0 from by repeat (first | exact HI0.out | apply iA | apply iN | apply iD | apply i1 | apply i2 | refine IsS64.far ?_ NB0_400.out _))) : gb401 ≠ gs)); replace HI0 := am (IsS64.below (by repeat (first | exact HI0.out | apply iA | apply iN | apply iD | apply i1 | apply i2 | refine IsS64.far ?_ NB0_400.out _)) hb); clear hb hbox hg) | ((with_reducible refine gate_callee (f := 45) rfl ?_); refine goesL_ (some 9) rfl rfl Try.func45 (by kernel_rfl) rfl #[.pointer (some ⟨gs, 0, none⟩), .int .i64 4] rfl (by (try simp only [mT, mC, mZ]); first | done | rfl) ?_; (with_reducible refine (spec_l1Cur_pair.calls k gs s0_0 0 0 4 t402 t405 t408 t409 w _ ?side1 ?side2 A2.out).mono ?_); (case side1 => repeat (first | exact HI0.out | apply iA | apply iN | apply iD | apply i1 | apply i2 | refine IsS64.far ?_ NB0_400.out _ | refine IsS64.far ?_ NB0_401.out _)); (case side2 => repeat (with_reducible first | exact HB.out | apply bA | apply bN | apply bD | refine bS ?_ (iG HI0.out) | refine bS ?_ GE400.out | refine bS ?_ GE401.out)); rintro e w6 ⟨v403, v406, rfl, ho0, ho1, hi, hb, hk⟩; refine ⟨_, rfl, ?_⟩; replace BK400 := am (KeepBut.blk hk (g' := gb400) (o := .cells #[.slice none 0 0, .slice none 0 0] 26 (0, 0)) (by (with_reducible repeat (first | apply kB | apply kC | apply kE)); exact BK400.out) NB400_0.out (by simp)); replace BK401 := am (KeepBut.blk hk (g' := gb401) (o := .cells #[.slice none 0 0, .slice none 0 0] 26 (0, 0)) (by (with_reducible repeat (first | apply kB | apply kC | apply kE)); exact BK401.out) NB401_0.out (by simp)); have HO404 := am (Kd.R_lower ho0 (keep_size (w := wb) (g := gs) (row := none) (by repeat (first | exact HK.out | apply kS | apply kN | apply kD | apply kA | refine keep_far ?_ GW400.out _ | refine keep_far ?_ GW401.out _)))); have HO407 := am (Kd.R_lower ho1 (keep_size (w := wb) (g := gs) (row := none) (by repeat (first | exact HK.out | apply kS | apply kN | apply kD | apply kA | refine keep_far ?_ GW400.out _ | refine keep_far ?_ GW401.out _)))); replace HK := am (KeepBut.trans (by repeat (first | exact HK.out | apply kS | apply kN | apply kD | apply kA | refine keep_far ?_ GW400.out _ | refine keep_far ?_ GW401.out _)) hk (.inl rfl)); replace HB := am (hb); replace HI0 := am (hi); (try clear hb2); (try clear hb hk hi); (try clear ho0); (try clear ho1)) | ((with_reducible refine gate_callee (f := 45) rfl ?_); refine goesL_ (some 11) rfl rfl Try.func45 (by kernel_rfl) rfl #[.pointer (some ⟨gs, 0, none⟩), .int .i64 4] rfl (by (try simp only [mT, mC, mZ]); first | done | rfl) ?_; (with_reducible refine (spec_l1Cur_pair.calls k gs s0_0 t408 t409 4 t410 t413 t416 t417 w _ ?side1 ?side2 A3.out).mono ?_); (case side1 => repeat (first | exact HI0.out | apply iA | apply iN | apply iD | apply i1 | apply i2 | refine IsS64.far ?_ NB0_400.out _ | refine IsS64.far ?_ NB0_401.out _)); (case side2 => repeat (with_reducible first | exact HB.out | apply bA | apply bN | apply bD | refine bS ?_ (iG HI0.out) | refine bS ?_ GE400.out | refine bS ?_ GE401.out)); rintro e w7 ⟨v411, v414, rfl, ho0, ho1, hi, hb, hk⟩; refine ⟨_, rfl, ?_⟩; replace BK400 := am (KeepBut.blk hk (g' := gb400) (o := .cells #[.slice none 0 0, .slice none 0 0] 26 (0, 0)) (by (with_reducible repeat (first | apply kB | apply kC | apply kE)); exact BK400.out) NB400_0.out (by simp)); replace BK401 := am (KeepBut.blk hk (g' := gb401) (o := .cells #[.slice none 0 0, .slice none 0 0] 26 (0, 0)) (by (with_reducible repeat (first | apply kB | apply kC | apply kE)); exact BK401.out) NB401_0.out (by simp)); have HO412 := am (Kd.R_lower (Kd.R_new' (Kd.R_new' ho0 (Kd.R_lt (by (with_reducible repeat (first | apply rA | apply rN | apply rD)); exact HO404.out))) (Kd.R_lt (by (with_reducible repeat (first | apply rA | apply rN | apply rD)); exact HO407.out))) (keep_size (w := wb) (g := gs) (row := none) (by repeat (first | exact HK.out | apply kS | apply kN | apply kD | apply kA | refine keep_far ?_ GW400.out _ | refine keep_far ?_ GW401.out _)))); have HO415 := am (Kd.R_lower (Kd.R_new' (Kd.R_new' ho1 (Kd.R_lt (by (with_reducible repeat (first | apply rA | apply rN | apply rD)); exact HO404.out))) (Kd.R_lt (by (with_reducible repeat (first | apply rA | apply rN | apply rD)); exact HO407.out))) (keep_size (w := wb) (g := gs) (row := none) (by repeat (first | exact HK.out | apply kS | apply kN | apply kD | apply kA | refine keep_far ?_ GW400.out _ | refine keep_far ?_ GW401.out _)))); replace HO404 := am (Kd.R_mono (Kd.R_told (Kd.R_told (Kd.R_oldK (IsS64.apart (show IsS64 w _ gs s0_0 t408 t409 from by repeat (first | exact HI0.out | apply iA | apply iN | apply iD | apply i1 | apply i2 | refine IsS64.far ?_ NB0_400.out _ | refine IsS64.far ?_ NB0_401.out _)) (by (with_reducible repeat (first | apply rA | apply rN | apply rD)); exact HO404.out) (by decide)) hk) (Kd.R_base ho0)) (Kd.R_base ho1)) (fun _ h_ => h_.1)); replace HO407 := am (Kd.R_mono (Kd.R_told (Kd.R_told (Kd.R_oldK (IsS64.apart (show IsS64 w _ gs s0_0 t408 t409 from by repeat (first | exact HI0.out | apply iA | apply iN | apply iD | apply i1 | apply i2 | refine IsS64.far ?_ NB0_400.out _ | refine IsS64.far ?_ NB0_401.out _)) (by (with_reducible repeat (first | apply rA | apply rN | apply rD)); exact HO407.out) (by decide)) hk) (Kd.R_base ho0)) (Kd.R_base ho1)) (fun _ h_ => h_.1)); replace HK := am (KeepBut.trans (by repeat (first | exact HK.out | apply kS | apply kN | apply kD | apply kA | refine keep_far ?_ GW400.out _ | refine keep_far ?_ GW401.out _)) hk (.inl rfl)); replace HB := am (hb); replace HI0 := am (hi); (try clear hb2); (try clear hb hk hi); (try clear ho0); (try clear ho1); obtain ⟨Ao8, co8, eo8⟩ := Kd.R_slice HO404.out; subst eo8; have hnb9 := NB400_401.out; have hnc9 := NB401_400.out; have hnb10 := NB400_0.out; have hnc10 := NB0_400.out; have hcz11_0 : w7.cell? ⟨gb400, 0, none⟩ = some (.slice none 0 0) := (blk_cell BK400.out 0).trans rfl; have hcz11_1 : w7.cell? ⟨gb400, 1, none⟩ = some (.slice none 0 0) := (blk_cell BK400.out 1).trans rfl; have hfz11_0 := blk_frozen BK400.out 0; have hfz11_1 := blk_frozen BK400.out 1; obtain ⟨Ao12, co12, eo12⟩ := Kd.R_slice HO407.out; subst eo12; obtain ⟨Ao13, co13, eo13⟩ := Kd.R_slice HO412.out; subst eo13; have hnb14 := NB401_0.out; have hnc14 := NB0_401.out; have hcz15_0 : w7.cell? ⟨gb401, 0, none⟩ = some (.slice none 0 0) := (blk_cell BK401.out 0).trans rfl; have hcz15_1 : w7.cell? ⟨gb401, 1, none⟩ = some (.slice none 0 0) := (blk_cell BK401.out 1).trans rfl; have hfz15_0 := blk_frozen BK401.out 0; have hfz15_1 := blk_frozen BK401.out 1; obtain ⟨Ao16, co16, eo16⟩ := Kd.R_slice HO415.out; subst eo16))
 refine bodyPost_ret (results_cc rfl _ _ gb400 gb401 26 26 #[.slice Ao8 t402.length co8, .slice Ao12 t405.length co12] #[.slice Ao13 t410.length co13, .slice Ao16 t413.length co16] (0, 0) (0, 0) _ _ rfl (by (with_reducible repeat (first | apply kB | apply kC | apply kE)); refine blk_far ?_ NB400_401.out _; (with_reducible repeat (first | apply kB | apply kC | apply kE)); refine blk_far ?_ NB400_401.out _; (with_reducible repeat (first | apply kB | apply kC | apply kE)); refine blk_put (cs := #[.slice Ao8 t402.length co8, .slice none 0 0]) ?_ 1 _ rfl; (with_reducible repeat (first | apply kB | apply kC | apply kE)); refine blk_put (cs := #[.slice none 0 0, .slice none 0 0]) ?_ 0 _ rfl; (with_reducible repeat (first | apply kB | apply kC | apply kE)); exact BK400.out) Try.underlying26 rfl (by kernel_rfl) rfl (by (with_reducible repeat (first | apply kB | apply kC | apply kE)); refine blk_put (cs := #[.slice Ao13 t410.length co13, .slice none 0 0]) ?_ 1 _ rfl; (with_reducible repeat (first | apply kB | apply kC | apply kE)); refine blk_put (cs := #[.slice none 0 0, .slice none 0 0]) ?_ 0 _ rfl; (with_reducible repeat (first | apply kB | apply kC | apply kE)); refine blk_far ?_ NB401_400.out _; (with_reducible repeat (first | apply kB | apply kC | apply kE)); refine blk_far ?_ NB401_400.out _; (with_reducible repeat (first | apply kB | apply kC | apply kE)); exact BK401.out) Try.underlying26 rfl (by kernel_rfl)) rfl ?_
 exact ⟨_, _, _, _, by first | rfl | (simp [*, errW_none, errW_some] <;> rfl), Kd.R_lower (by (with_reducible repeat (first | apply rA | apply rN | apply rD)); exact Kd.R_mono (Kd.R_far (p := ⟨gb401, 1, none⟩) (Kd.R_far (p := ⟨gb401, 0, none⟩) (Kd.R_far (p := ⟨gb400, 1, none⟩) (Kd.R_far (p := ⟨gb400, 0, none⟩) (Kd.R_types (Kd.R_types HO404.out BK400.out (by decide)) BK401.out (by decide)) (fun _ hk => hk.1.2) (.slice Ao8 t402.length co8)) (fun _ hk => hk.1.2) (.slice Ao12 t405.length co12)) (fun _ hk => hk.2) (.slice Ao13 t410.length co13)) (fun _ hk => hk.2) (.slice Ao16 t413.length co16)) (fun _ hk => ⟨hk.1.1.1.1, ⟨hk.1.1.1.2, hk.1.1.2⟩⟩)) HBXS.out, Kd.R_lower (by (with_reducible repeat (first | apply rA | apply rN | apply rD)); exact Kd.R_mono (Kd.R_far (p := ⟨gb401, 1, none⟩) (Kd.R_far (p := ⟨gb401, 0, none⟩) (Kd.R_far (p := ⟨gb400, 1, none⟩) (Kd.R_far (p := ⟨gb400, 0, none⟩) (Kd.R_types (Kd.R_types HO407.out BK400.out (by decide)) BK401.out (by decide)) (fun _ hk => hk.1.2) (.slice Ao8 t402.length co8)) (fun _ hk => hk.1.2) (.slice Ao12 t405.length co12)) (fun _ hk => hk.2) (.slice Ao13 t410.length co13)) (fun _ hk => hk.2) (.slice Ao16 t413.length co16)) (fun _ hk => ⟨hk.1.1.1.1, ⟨hk.1.1.1.2, hk.1.1.2⟩⟩)) HBXS.out, Kd.R_lower (by (with_reducible repeat (first | apply rA | apply rN | apply rD)); exact Kd.R_mono (Kd.R_far (p := ⟨gb401, 1, none⟩) (Kd.R_far (p := ⟨gb401, 0, none⟩) (Kd.R_far (p := ⟨gb400, 1, none⟩) (Kd.R_far (p := ⟨gb400, 0, none⟩) (Kd.R_types (Kd.R_types HO412.out BK400.out (by decide)) BK401.out (by decide)) (fun _ hk => hk.1.2) (.slice Ao8 t402.length co8)) (fun _ hk => hk.1.2) (.slice Ao12 t405.length co12)) (fun _ hk => hk.2) (.slice Ao13 t410.length co13)) (fun _ hk => hk.2) (.slice Ao16 t413.length co16)) (fun _ hk => ⟨hk.1.1.1.2, ⟨hk.1.1.2, hk.1.1.1.1⟩⟩)) HBXS.out, Kd.R_lower (by (with_reducible repeat (first | apply rA | apply rN | apply rD)); exact Kd.R_mono (Kd.R_far (p := ⟨gb401, 1, none⟩) (Kd.R_far (p := ⟨gb401, 0, none⟩) (Kd.R_far (p := ⟨gb400, 1, none⟩) (Kd.R_far (p := ⟨gb400, 0, none⟩) (Kd.R_types (Kd.R_types HO415.out BK400.out (by decide)) BK401.out (by decide)) (fun _ hk => hk.1.2) (.slice Ao8 t402.length co8)) (fun _ hk => hk.1.2) (.slice Ao12 t405.length co12)) (fun _ hk => hk.2) (.slice Ao13 t410.length co13)) (fun _ hk => hk.2) (.slice Ao16 t413.length co16)) (fun _ hk => ⟨hk.1.1.1.2, ⟨hk.1.1.2, hk.1.1.1.1⟩⟩)) HBXS.out, by repeat (with_reducible first | exact HB.out | apply bA | apply bN | apply bD | refine bS ?_ (iG HI0.out) | refine bS ?_ GE400.out | refine bS ?_ GE401.out)⟩
def impl_joined.l0 : Nat → List Int → List Int → List Int → Int → Int → Option (List Int)
 | 0, _, _, _, _, _ => none
 | k + 1, x0, x5, x10, x11, x12 => if x12 < x11 then (if 0 ≤ x12 then (if x12 < (x10.length : Int) then (if x5.length < 17592186044416 then (impl_joined.l0 k x0 (x5 ++ [wrap64 ((rd x10 x12) + (x0.length : Int))]) x10 x11 (wrap64 (x12 + 1))) else (none)) else (none)) else (none)) else (some x5)
def impl_joined.f (k : Nat) (l0 : List Int) (l1 : List Int) : Option (List Int) := (slices_Clone_int_int.f l0).bind fun t418 => (impl_joined.l0 k l0 t418 l1 (l1.length : Int) 0)
theorem impl_joined.calls (k : Nat) (A0 : Option Addr) (c0 : Nat) (l0 : List Int) (A1 : Option Addr) (c1 : Nat) (l1 : List Int) (r : List Int) (w : World) (hr0 : Kd.C (Kd.int .i64) w A0 l0.length l0) (hc0 : l0.length ≤ c0) (hr1 : Kd.C (Kd.int .i64) w A1 l1.length l1) (hc1 : l1.length ≤ c1) (h : impl_joined.f k l0 l1 = some r) :
 Calls Try.prog 64 #[.slice A0 l0.length c0, .slice A1 l1.length c1] w fun e w' => ∃ v0_ : Value, e = .returned (v0_) ∧ Kd.R (Kd.int .i64) 3 w' w.heap.size (fun _ => True) v0_ r ∧ Below w.heap.size w w' := by
 have HR0 := am hr0
 have HC0 := am hc0
 clear hr0 hc0
 have HR1 := am hr1
 have HC1 := am hc1
 clear hr1 hc1
 have HB := am (Below.refl w.heap.size w)
 have H : ((slices_Clone_int_int.f l0).bind fun t418 => (impl_joined.l0 k l0 t418 l1 (l1.length : Int) 0)) = some r := h
 clear h
 replace H := Option.bind_eq_some_iff.mp H
 obtain ⟨t418, A30, H⟩ := H
 replace H : (impl_joined.l0 k l0 t418 l1 (l1.length : Int) 0) = some r := H
 have A3 := am A30
 clear A30
 have H' := am H
 clear H
 go_enter Try.func64, Try.ntmps64
 go_wp2_with (first | ((with_reducible refine gate_callee (f := 60) rfl ?_); refine goesL_ (some 9) rfl rfl Try.func60 (by kernel_rfl) rfl #[.slice A0 l0.length c0] rfl (by (try simp only [mT, mC, mZ]); first | done | rfl) ?_; (with_reducible refine (slices_Clone_int_int.calls _ _ l0 t418 _ ?side1 ?side2 A3.out).mono ?_); (case side1 => repeat (first | exact HR0.out | (with_reducible first | apply cA | apply cN | apply cD))); (case side2 => exact HC0.out); rintro e w4 ⟨v419, rfl, ho0, hb⟩; refine ⟨_, rfl, ?_⟩; have HO420 := am (Kd.R_lower ho0 (below_size (by repeat (with_reducible first | exact HB.out | apply bA | apply bN | apply bD)))); replace HB := am (below_step (by repeat (with_reducible first | exact HB.out | apply bA | apply bN | apply bD)) hb); (try clear hb2); (try clear hb hk hi); (try clear ho0)))
 go_loopg [5, 12] k (fun kq v5 v12 w' => ∃ (x5_1 : List Int) (x12_1 : Int), v12 = .int .i64 x12_1 ∧ Aside0 (impl_joined.l0 kq l0 x5_1 l1 (l1.length : Int) x12_1 = some r) ∧ Aside0 (kq ≤ k) ∧ Aside0 (Kd.R (Kd.int .i64) 3 w' w.heap.size (fun _ => True) v5 x5_1) ∧ Aside0 (Below w.heap.size w w'))
 case atStart => exact ⟨(t418), (0), (by first | rfl | (simp; done) | (simp [*]; done)), H', ⟨Nat.le_refl _⟩, ⟨by (with_reducible repeat (first | apply rA | apply rN | apply rD)); exact HO420.out⟩, ⟨by repeat (with_reducible first | exact HB.out | apply bA | apply bN | apply bD)⟩⟩
 case round =>
  clear H'
  try clear p2
  obtain ⟨x5_1, x12_1, rfl, HA, HK1, HO_5, HB⟩ := hrel
  cases gk with
  | zero => exact absurd HA.out (by simp [impl_joined.l0])
  | succ k1 =>
   have H := HA.out
   clear HA
   simp only [impl_joined.l0] at H
   by_cases c5 : x12_1 < (l1.length : Int)
   ·rw [if_pos c5] at H
    have c5b0 : decide (x12_1 < (l1.length : Int)) = true := decide_eq_true c5
    clear c5
    by_cases c6 : 0 ≤ x12_1
    ·rw [if_pos c6] at H
     have c6b0 : decide (0 ≤ x12_1) = true := decide_eq_true c6
     clear c6
     by_cases c7 : x12_1 < (l1.length : Int)
     ·rw [if_pos c7] at H
      have c7b0 : decide (x12_1 < (l1.length : Int)) = true := decide_eq_true c7
      clear c7
      by_cases c8 : x5_1.length < 17592186044416
      ·rw [if_pos c8] at H
       have LMc8 := am c8
       clear c8
       obtain ⟨y422, hy422⟩ : ∃ y_ : List Int, y_ = (x5_1 ++ [wrap64 ((rd l1 x12_1) + (l0.length : Int))]) := ⟨_, rfl⟩
       replace H : (impl_joined.l0 k1 l0 y422 l1 (l1.length : Int) (wrap64 (x12_1 + 1))) = some r := by first | (rw [hy422]; with_reducible exact H) | (have H2_ := (Option.bind_some _ _).symm.trans H; rw [hy422]; with_reducible exact H2_) | (have H2_ := (Option.bind_some _ _).symm.trans H; with_reducible exact H2_) | with_reducible exact H | (rw [hy422]; exact H) | exact H
       have Ny422 := am hy422
       clear hy422
       have H' := am H
       clear H
       have p421 : 0 ≤ (x12_1 : Int) := ofd (by assumption)
       have q421 : x12_1 < (l1.length : Int) := ofd (by assumption)
       obtain ⟨ad421, e421, hx421_0⟩ := Kd.at_int HR1.out x12_1 p421 q421
       cases e421
       replace hx421_0 := (HB.out.cell (World.block_lt_of_cell? w _ hx421_0)).trans hx421_0
       replace p421 := eq_true p421
       replace q421 := eq_true q421
       go_wp2_with (first | ((with_reducible refine gate_builtin (b := .append) (xs := #[.tmp 16, .tmp 21]) rfl ?_); at_builtin; refine Kd.R_append (Kd.int .i64) (w0 := w) w.heap.size rfl (.tmp 16) (.tmp 21) 24 3 (.int .i64 0) 8 rfl Try.underlying24 info3 rfl (by decide) (by omega) u5 x5_1 (wrap64 ((rd l1 x12_1) + (l0.length : Int))) [.int .i64 (wrap64 ((rd l1 x12_1) + (l0.length : Int)))] (fun _ => True) (fun _ => False) rfl rfl ?aP (fun _ hk => hk.elim) ?aF ?aO ?aB ?aS ?aL ?_; (case aP => exact rfl); (case aB => exact (by repeat (with_reducible first | exact HB.out | apply bA | apply bN | apply bD))); (case aF => exact (fun _ _ => trivial)); (case aO => exact (by (with_reducible repeat (first | apply rA | apply rN | apply rD)); exact HO_5.out)); (case aS => exact (below_size (by repeat (with_reducible first | exact HB.out | apply bA | apply bN | apply bD)))); (case aL => have := LMc8.out; omega); intro v423 w9 ho hb hg hat; rw [← Ny422.out] at ho; replace HB := am (hb); have HO424 := am (ho); clear HO_5; clear ho hb hg hat))
       go_roundg k1
       case measure => have := HK1.out; omega
       case rel => exact ⟨(y422), (wrap64 (x12_1 + 1)), (by first | rfl | (simp; done) | (simp [*]; done)), H', ⟨by have := HK1.out; omega⟩, ⟨by (with_reducible repeat (first | apply rA | apply rN | apply rD)); exact HO424.out⟩, ⟨by repeat (with_reducible first | exact HB.out | apply bA | apply bN | apply bD)⟩⟩
      ·rw [if_neg c8] at H
       exact absurd H (by simp)
     ·rw [if_neg c7] at H
      exact absurd H (by simp)
    ·rw [if_neg c6] at H
     exact absurd H (by simp)
   ·rw [if_neg c5] at H
    have c5b0 : decide (x12_1 < (l1.length : Int)) = false := decide_eq_false c5
    clear c5
    obtain rfl := Option.some.inj H
    go_wp2
    go_ret
    exact ⟨_, by first | rfl | (simp [*, errW_none, errW_some] <;> rfl), by (with_reducible repeat (first | apply rA | apply rN | apply rD)); exact HO_5.out, by repeat (with_reducible first | exact HB.out | apply bA | apply bN | apply bD)⟩
def impl_JoinMeanders.j0 : Nat → Bool → List Int → List Int → List Int → List Int → Option (List Int × List Int × Bool)
 | 0, _, _, _, _, _ => none
 | k + 1, x23, x426000, x426001, x427000, x427001 => if x23 = true then (some (([] : List Int), ([] : List Int), false)) else ((impl_joined.f k x426000 x427000).bind fun t430 => ((impl_joined.f k x426001 x427001).bind fun t433 => (some (t430, t433, true))))
def impl_JoinMeanders.f (k : Nat) (l0_0 : List Int) (l0_1 : List Int) (l1_0 : List Int) (l1_1 : List Int) : Option (List Int × List Int × Bool) := (impl_IsPair.f k l0_0 l0_1).bind fun t428 => (if t428 = true then ((impl_IsPair.f k l1_0 l1_1).bind fun t429 => (if t429 = true then (impl_JoinMeanders.j0 k (decide ((wrap64 ((l0_0.length : Int) + (l1_0.length : Int))) > 12)) l0_0 l0_1 l1_0 l1_1) else (impl_JoinMeanders.j0 k true l0_0 l0_1 l1_0 l1_1))) else (impl_JoinMeanders.j0 k true l0_0 l0_1 l1_0 l1_1))
def impl_JoinMeanders.T3 : Bool × List (List Nat × List Nat) := (true, [([], []), ([0], [0]), ([], []), ([2], [2]), ([1, 3], [1, 3]), ([], []), ([5], [5]), ([], []), ([7], [7]), ([6, 8, 4], [6, 8]), ([4, 9], [4, 9]), ([10, 9, 0, 1, 2, 3, 4, 5, 6, 7, 8, 9, 10], [10]), ([11, 0, 1, 2, 3, 4, 5, 6, 7, 8, 9, 10, 11], [])])
def impl_JoinMeanders.B3 : List Nat := [0, 1, 0, 4, 15, 0, 32, 0, 128, 511, 1023, 2047, 4095]
theorem impl_JoinMeanders.tab3 : rtab .any (opsOf Try.f31 3) = impl_JoinMeanders.T3 := by kernel_rfl
theorem impl_JoinMeanders.bits3 : waitsOk impl_JoinMeanders.T3.2 impl_JoinMeanders.B3 = true := by kernel_rfl
theorem impl_JoinMeanders.calls (k : Nat) (A0_0 : Option Addr) (c0_0 : Nat) (l0_0 : List Int) (A0_1 : Option Addr) (c0_1 : Nat) (l0_1 : List Int) (A1_0 : Option Addr) (c1_0 : Nat) (l1_0 : List Int) (A1_1 : Option Addr) (c1_1 : Nat) (l1_1 : List Int) (r1 : List Int) (r2 : List Int) (r3 : Bool) (w : World) (hr0_0 : Kd.C (Kd.int .i64) w A0_0 l0_0.length l0_0) (hc0_0 : l0_0.length ≤ c0_0) (hr0_1 : Kd.C (Kd.int .i64) w A0_1 l0_1.length l0_1) (hc0_1 : l0_1.length ≤ c0_1) (hr1_0 : Kd.C (Kd.int .i64) w A1_0 l1_0.length l1_0) (hc1_0 : l1_0.length ≤ c1_0) (hr1_1 : Kd.C (Kd.int .i64) w A1_1 l1_1.length l1_1) (hc1_1 : l1_1.length ≤ c1_1) (h : impl_JoinMeanders.f k l0_0 l0_1 l1_0 l1_1 = some (r1, r2, r3)) :
 Calls Try.prog 31 #[.agg #[.slice A0_0 l0_0.length c0_0, .slice A0_1 l0_1.length c0_1], .agg #[.slice A1_0 l1_0.length c1_0, .slice A1_1 l1_1.length c1_1]] w fun e w' => ∃ v0_ v1_ : Value, e = .returned (.tuple #[.agg #[v0_, v1_], .bool r3]) ∧ Kd.R (Kd.int .i64) 3 w' w.heap.size (fun k_ => some k_ ≠ (v1_ : Value).ownBlock) v0_ r1 ∧ Kd.R (Kd.int .i64) 3 w' w.heap.size (fun k_ => some k_ ≠ (v0_ : Value).ownBlock) v1_ r2 ∧ Below w.heap.size w w' := by
 have hu26 := Try.underlying26
 have HR0_0 := am hr0_0
 have HC0_0 := am hc0_0
 clear hr0_0 hc0_0
 have HR0_1 := am hr0_1
 have HC0_1 := am hc0_1
 clear hr0_1 hc0_1
 have HR1_0 := am hr1_0
 have HC1_0 := am hc1_0
 clear hr1_0 hc1_0
 have HR1_1 := am hr1_1
 have HC1_1 := am hc1_1
 clear hr1_1 hc1_1
 have HB := am (Below.refl w.heap.size w)
 have H : ((impl_IsPair.f k l0_0 l0_1).bind fun t428 => (if t428 = true then ((impl_IsPair.f k l1_0 l1_1).bind fun t429 => (if t429 = true then (impl_JoinMeanders.j0 k (decide ((wrap64 ((l0_0.length : Int) + (l1_0.length : Int))) > 12)) l0_0 l0_1 l1_0 l1_1) else (impl_JoinMeanders.j0 k true l0_0 l0_1 l1_0 l1_1))) else (impl_JoinMeanders.j0 k true l0_0 l0_1 l1_0 l1_1))) = some (r1, r2, r3) := h
 clear h
 have HC3 := am H
 clear H
 go_enter Try.func31, Try.ntmps31
 go_upto_region 1 with (first | ((with_reducible refine gate_dst (N := 2) rfl ?_); (try (refine gate_guard (by rfl) ?_; dsimp only)); refine box_event ?hg (N := 2) ?hd (cs := #[.slice A0_0 l0_0.length c0_0, .slice A0_1 l0_1.length c0_1]) (t := 26) ?hr ?_; (case hd => rfl); (case hg => rfl); (case hr => first | (go_simp; done) | (go_simp; rfl)); intro gb425 hg w4 hbox hb; have BK425 := am (hbox); have GW425 := am ((by rw [hg]; exact (below_size (by repeat (with_reducible first | exact HB.out | apply bA | apply bN | apply bD))) : w.heap.size ≤ gb425)); have GE425 := am ((by rw [hg]; exact (below_size (by repeat (with_reducible first | exact HB.out | apply bA | apply bN | apply bD))) : w.heap.size ≤ gb425)); replace HB := am (below_step (by repeat (with_reducible first | exact HB.out | apply bA | apply bN | apply bD)) hb); clear hb hbox hg) | ((with_reducible refine gate_dst (N := 3) rfl ?_); (try (refine gate_guard (by rfl) ?_; dsimp only)); refine box_event ?hg (N := 3) ?hd (cs := #[.slice A1_0 l1_0.length c1_0, .slice A1_1 l1_1.length c1_1]) (t := 26) ?hr ?_; (case hd => rfl); (case hg => rfl); (case hr => first | (go_simp; done) | (go_simp; rfl)); intro gb426 hg w5 hbox hb; have BK426 := am (hbox); have GW426 := am ((by rw [hg]; exact (below_size (by repeat (with_reducible first | exact HB.out | apply bA | apply bN | apply bD | refine bS ?_ GE425.out))) : w.heap.size ≤ gb426)); have GE426 := am ((by rw [hg]; exact (below_size (by repeat (with_reducible first | exact HB.out | apply bA | apply bN | apply bD | refine bS ?_ GE425.out))) : w.heap.size ≤ gb426)); replace HB := am (below_step (by repeat (with_reducible first | exact HB.out | apply bA | apply bN | apply bD | refine bS ?_ GE425.out)) hb); have NB425_426 := am ((by rw [hg]; exact Nat.ne_of_lt (blk_lt (g := gb425) (by (with_reducible repeat (first | apply kB | apply kC | apply kE)); exact BK425.out)) : gb425 ≠ gb426)); have NB426_425 := am ((by rw [hg]; exact Nat.ne_of_gt (blk_lt (g := gb425) (by (with_reducible repeat (first | apply kB | apply kC | apply kE)); exact BK425.out)) : gb426 ≠ gb425)); replace BK425 := am (blk_below (g := gb425) (by (with_reducible repeat (first | apply kB | apply kC | apply kE)); exact BK425.out) hb); clear hb hbox hg) | ((with_reducible refine gate_dst (N := 4) rfl ?_); (try (refine gate_guard (by rfl) ?_; dsimp only)); refine box_event ?hg (N := 4) ?hd (cs := #[.slice none 0 0, .slice none 0 0]) (t := 26) ?hr ?_; (case hd => rfl); (case hg => rfl); (case hr => first | (go_simp; done) | (go_simp; rfl)); intro gb427 hg w6 hbox hb; have BK427 := am (hbox); have GW427 := am ((by rw [hg]; exact (below_size (by repeat (with_reducible first | exact HB.out | apply bA | apply bN | apply bD | refine bS ?_ GE425.out | refine bS ?_ GE426.out))) : w.heap.size ≤ gb427)); have GE427 := am ((by rw [hg]; exact (below_size (by repeat (with_reducible first | exact HB.out | apply bA | apply bN | apply bD | refine bS ?_ GE425.out | refine bS ?_ GE426.out))) : w.heap.size ≤ gb427)); replace HB := am (below_step (by repeat (with_reducible first | exact HB.out | apply bA | apply bN | apply bD | refine bS ?_ GE425.out | refine bS ?_ GE426.out)) hb); have NB425_427 := am ((by rw [hg]; exact Nat.ne_of_lt (blk_lt (g := gb425) (by (with_reducible repeat (first | apply kB | apply kC | apply kE)); exact BK425.out)) : gb425 ≠ gb427)); have NB427_425 := am ((by rw [hg]; exact Nat.ne_of_gt (blk_lt (g := gb425) (by (with_reducible repeat (first | apply kB | apply kC | apply kE)); exact BK425.out)) : gb427 ≠ gb425)); replace BK425 := am (blk_below (g := gb425) (by (with_reducible repeat (first | apply kB | apply kC | apply kE)); exact BK425.out) hb); have NB426_427 := am ((by rw [hg]; exact Nat.ne_of_lt (blk_lt (g := gb426) (by (with_reducible repeat (first | apply kB | apply kC | apply kE)); exact BK426.out)) : gb426 ≠ gb427)); have NB427_426 := am ((by rw [hg]; exact Nat.ne_of_gt (blk_lt (g := gb426) (by (with_reducible repeat (first | apply kB | apply kC | apply kE)); exact BK426.out)) : gb427 ≠ gb426)); replace BK426 := am (blk_below (g := gb426) (by (with_reducible repeat (first | apply kB | apply kC | apply kE)); exact BK426.out) hb); clear hb hbox hg))
 (try simp only [Act.put, sI, s0_, s1_])
 go_cut [23] (fun v23 wc => ∃ (kq : Nat) (x23_2 : Bool), v23 = .bool x23_2 ∧ Aside0 (impl_JoinMeanders.j0 kq x23_2 l0_0 l0_1 l1_0 l1_1 = some (r1, r2, r3)) ∧ Aside0 (kq ≤ k) ∧ Aside0 (wc.heap[gb425]? = some (.cells #[(.slice A0_0 l0_0.length c0_0), (.slice A0_1 l0_1.length c0_1)] 26 (0, 0))) ∧ Aside0 (wc.heap[gb426]? = some (.cells #[(.slice A1_0 l1_0.length c1_0), (.slice A1_1 l1_1.length c1_1)] 26 (0, 0))) ∧ Aside0 (wc.heap[gb427]? = some (.cells #[(.slice none 0 0), (.slice none 0 0)] 26 (0, 0))) ∧ Aside0 (Below w.heap.size w wc))
 case first =>
  have H := HC3.out
  clear HC3
  replace H := Option.bind_eq_some_iff.mp H
  obtain ⟨t428, A70, H⟩ := H
  replace H : (if t428 = true then ((impl_IsPair.f k l1_0 l1_1).bind fun t429 => (if t429 = true then (impl_JoinMeanders.j0 k (decide ((wrap64 ((l0_0.length : Int) + (l1_0.length : Int))) > 12)) l0_0 l0_1 l1_0 l1_1) else (impl_JoinMeanders.j0 k true l0_0 l0_1 l1_0 l1_1))) else (impl_JoinMeanders.j0 k true l0_0 l0_1 l1_0 l1_1)) = some (r1, r2, r3) := H
  have A7 := am A70
  clear A70
  by_cases c8 : t428 = true
  ·subst c8
   have H1 : ((impl_IsPair.f k l1_0 l1_1).bind fun t429 => (if t429 = true then (impl_JoinMeanders.j0 k (decide ((wrap64 ((l0_0.length : Int) + (l1_0.length : Int))) > 12)) l0_0 l0_1 l1_0 l1_1) else (impl_JoinMeanders.j0 k true l0_0 l0_1 l1_0 l1_1))) = some (r1, r2, r3) := by rw [if_pos rfl] at H; exact H
   clear H
   have H := H1
   clear H1
   replace H := Option.bind_eq_some_iff.mp H
   obtain ⟨t429, A90, H⟩ := H
   replace H : (if t429 = true then (impl_JoinMeanders.j0 k (decide ((wrap64 ((l0_0.length : Int) + (l1_0.length : Int))) > 12)) l0_0 l0_1 l1_0 l1_1) else (impl_JoinMeanders.j0 k true l0_0 l0_1 l1_0 l1_1)) = some (r1, r2, r3) := H
   have A9 := am A90
   clear A90
   by_cases c10 : t429 = true
   ·subst c10
    have H1 : (impl_JoinMeanders.j0 k (decide ((wrap64 ((l0_0.length : Int) + (l1_0.length : Int))) > 12)) l0_0 l0_1 l1_0 l1_1) = some (r1, r2, r3) := by rw [if_pos rfl] at H; exact H
    clear H
    have H := H1
    clear H1
    have H' := am H
    clear H
    have hnb11 := NB425_426.out
    have hnc11 := NB426_425.out
    have hnb12 := NB425_427.out
    have hnc12 := NB427_425.out
    have hcz13_0 : w6.cell? ⟨gb425, 0, none⟩ = some (.slice A0_0 l0_0.length c0_0) := (blk_cell BK425.out 0).trans rfl
    have hcz13_1 : w6.cell? ⟨gb425, 1, none⟩ = some (.slice A0_1 l0_1.length c0_1) := (blk_cell BK425.out 1).trans rfl
    have hfz13_0 := blk_frozen BK425.out 0
    have hfz13_1 := blk_frozen BK425.out 1
    go_wp2_with (first | ((with_reducible refine gate_callee (f := 14) rfl ?_); refine goesL_ (some 7) rfl rfl Try.func14 (by kernel_rfl) rfl #[.agg #[.slice A0_0 l0_0.length c0_0, .slice A0_1 l0_1.length c0_1]] rfl (by (try simp only [mT, mC, mZ]); first | done | rfl) ?_; (with_reducible refine (impl_IsPair.calls k _ _ l0_0 _ _ l0_1 true _ ?side1 ?side2 ?side3 ?side4 A7.out).mono ?_); (case side1 => repeat (first | exact (Kd.C_below HR0_0.out HB.out) | (with_reducible first | apply cA | apply cN | apply cD))); (case side2 => exact HC0_0.out); (case side3 => repeat (first | exact (Kd.C_below HR0_1.out HB.out) | (with_reducible first | apply cA | apply cN | apply cD))); (case side4 => exact HC0_1.out); rintro e w14 ⟨rfl, hb⟩; refine ⟨_, rfl, ?_⟩; replace BK425 := am (blk_below (g := gb425) (by (with_reducible repeat (first | apply kB | apply kC | apply kE)); exact BK425.out) hb); replace BK426 := am (blk_below (g := gb426) (by (with_reducible repeat (first | apply kB | apply kC | apply kE)); exact BK426.out) hb); replace BK427 := am (blk_below (g := gb427) (by (with_reducible repeat (first | apply kB | apply kC | apply kE)); exact BK427.out) hb); replace HB := am (below_step (by repeat (with_reducible first | exact HB.out | apply bA | apply bN | apply bD | refine bS ?_ GE425.out | refine bS ?_ GE426.out | refine bS ?_ GE427.out)) hb); (try clear hb2); (try clear hb hk hi); have hnb15 := NB426_427.out; have hnc15 := NB427_426.out; have hcz16_0 : w14.cell? ⟨gb426, 0, none⟩ = some (.slice A1_0 l1_0.length c1_0) := (blk_cell BK426.out 0).trans rfl; have hcz16_1 : w14.cell? ⟨gb426, 1, none⟩ = some (.slice A1_1 l1_1.length c1_1) := (blk_cell BK426.out 1).trans rfl; have hfz16_0 := blk_frozen BK426.out 0; have hfz16_1 := blk_frozen BK426.out 1) | (go_at_call 14; (with_reducible refine (impl_IsPair.calls k _ _ l1_0 _ _ l1_1 true _ ?side1 ?side2 ?side3 ?side4 A9.out).mono ?_); (case side1 => repeat (first | exact (Kd.C_below HR1_0.out HB.out) | (with_reducible first | apply cA | apply cN | apply cD))); (case side2 => exact HC1_0.out); (case side3 => repeat (first | exact (Kd.C_below HR1_1.out HB.out) | (with_reducible first | apply cA | apply cN | apply cD))); (case side4 => exact HC1_1.out); rintro e w17 ⟨rfl, hb⟩; replace BK425 := am (blk_below (g := gb425) (by (with_reducible repeat (first | apply kB | apply kC | apply kE)); exact BK425.out) hb); replace BK426 := am (blk_below (g := gb426) (by (with_reducible repeat (first | apply kB | apply kC | apply kE)); exact BK426.out) hb); replace BK427 := am (blk_below (g := gb427) (by (with_reducible repeat (first | apply kB | apply kC | apply kE)); exact BK427.out) hb); replace HB := am (below_step (by repeat (with_reducible first | exact HB.out | apply bA | apply bN | apply bD | refine bS ?_ GE425.out | refine bS ?_ GE426.out | refine bS ?_ GE427.out)) hb); (try clear hb2); (try clear hb hk hi); have hcz18_0 : w17.cell? ⟨gb425, 0, none⟩ = some (.slice A0_0 l0_0.length c0_0) := (blk_cell BK425.out 0).trans rfl; have hcz18_1 : w17.cell? ⟨gb425, 1, none⟩ = some (.slice A0_1 l0_1.length c0_1) := (blk_cell BK425.out 1).trans rfl; have hfz18_0 := blk_frozen BK425.out 0; have hfz18_1 := blk_frozen BK425.out 1; have hcz19_0 : w17.cell? ⟨gb426, 0, none⟩ = some (.slice A1_0 l1_0.length c1_0) := (blk_cell BK426.out 0).trans rfl; have hcz19_1 : w17.cell? ⟨gb426, 1, none⟩ = some (.slice A1_1 l1_1.length c1_1) := (blk_cell BK426.out 1).trans rfl; have hfz19_0 := blk_frozen BK426.out 0; have hfz19_1 := blk_frozen BK426.out 1))
    go_meet
    case rel => exact ⟨_, (decide ((wrap64 ((l0_0.length : Int) + (l1_0.length : Int))) > 12)), (by first | rfl | (simp; done) | (simp [*]; done)), H', ⟨by first | omega | exact Nat.le_refl _⟩, ⟨by (with_reducible repeat (first | apply kB | apply kC | apply kE)); exact BK425.out⟩, ⟨by (with_reducible repeat (first | apply kB | apply kC | apply kE)); exact BK426.out⟩, ⟨by (with_reducible repeat (first | apply kB | apply kC | apply kE)); exact BK427.out⟩, ⟨by repeat (with_reducible first | exact HB.out | apply bA | apply bN | apply bD | refine bS ?_ GE425.out | refine bS ?_ GE426.out | refine bS ?_ GE427.out)⟩⟩
   ·replace c10 := Bool.eq_false_iff.mpr c10
    subst c10
    have H1 : (impl_JoinMeanders.j0 k true l0_0 l0_1 l1_0 l1_1) = some (r1, r2, r3) := by rw [if_neg (show ¬ (false = true) by decide)] at H; exact H
    clear H
    have H := H1
    clear H1
    have H' := am H
    clear H
    have hnb20 := NB425_426.out
    have hnc20 := NB426_425.out
    have hnb21 := NB425_427.out
    have hnc21 := NB427_425.out
    have hcz22_0 : w6.cell? ⟨gb425, 0, none⟩ = some (.slice A0_0 l0_0.length c0_0) := (blk_cell BK425.out 0).trans rfl
    have hcz22_1 : w6.cell? ⟨gb425, 1, none⟩ = some (.slice A0_1 l0_1.length c0_1) := (blk_cell BK425.out 1).trans rfl
    have hfz22_0 := blk_frozen BK425.out 0
    have hfz22_1 := blk_frozen BK425.out 1
    go_wp2_with (first | ((with_reducible refine gate_callee (f := 14) rfl ?_); refine goesL_ (some 7) rfl rfl Try.func14 (by kernel_rfl) rfl #[.agg #[.slice A0_0 l0_0.length c0_0, .slice A0_1 l0_1.length c0_1]] rfl (by (try simp only [mT, mC, mZ]); first | done | rfl) ?_; (with_reducible refine (impl_IsPair.calls k _ _ l0_0 _ _ l0_1 true _ ?side1 ?side2 ?side3 ?side4 A7.out).mono ?_); (case side1 => repeat (first | exact (Kd.C_below HR0_0.out HB.out) | (with_reducible first | apply cA | apply cN | apply cD))); (case side2 => exact HC0_0.out); (case side3 => repeat (first | exact (Kd.C_below HR0_1.out HB.out) | (with_reducible first | apply cA | apply cN | apply cD))); (case side4 => exact HC0_1.out); rintro e w23 ⟨rfl, hb⟩; refine ⟨_, rfl, ?_⟩; replace BK425 := am (blk_below (g := gb425) (by (with_reducible repeat (first | apply kB | apply kC | apply kE)); exact BK425.out) hb); replace BK426 := am (blk_below (g := gb426) (by (with_reducible repeat (first | apply kB | apply kC | apply kE)); exact BK426.out) hb); replace BK427 := am (blk_below (g := gb427) (by (with_reducible repeat (first | apply kB | apply kC | apply kE)); exact BK427.out) hb); replace HB := am (below_step (by repeat (with_reducible first | exact HB.out | apply bA | apply bN | apply bD | refine bS ?_ GE425.out | refine bS ?_ GE426.out | refine bS ?_ GE427.out)) hb); (try clear hb2); (try clear hb hk hi); have hnb24 := NB426_427.out; have hnc24 := NB427_426.out; have hcz25_0 : w23.cell? ⟨gb426, 0, none⟩ = some (.slice A1_0 l1_0.length c1_0) := (blk_cell BK426.out 0).trans rfl; have hcz25_1 : w23.cell? ⟨gb426, 1, none⟩ = some (.slice A1_1 l1_1.length c1_1) := (blk_cell BK426.out 1).trans rfl; have hfz25_0 := blk_frozen BK426.out 0; have hfz25_1 := blk_frozen BK426.out 1) | (go_at_call 14; (with_reducible refine (impl_IsPair.calls k _ _ l1_0 _ _ l1_1 false _ ?side1 ?side2 ?side3 ?side4 A9.out).mono ?_); (case side1 => repeat (first | exact (Kd.C_below HR1_0.out HB.out) | (with_reducible first | apply cA | apply cN | apply cD))); (case side2 => exact HC1_0.out); (case side3 => repeat (first | exact (Kd.C_below HR1_1.out HB.out) | (with_reducible first | apply cA | apply cN | apply cD))); (case side4 => exact HC1_1.out); rintro e w26 ⟨rfl, hb⟩; replace BK425 := am (blk_below (g := gb425) (by (with_reducible repeat (first | apply kB | apply kC | apply kE)); exact BK425.out) hb); replace BK426 := am (blk_below (g := gb426) (by (with_reducible repeat (first | apply kB | apply kC | apply kE)); exact BK426.out) hb); replace BK427 := am (blk_below (g := gb427) (by (with_reducible repeat (first | apply kB | apply kC | apply kE)); exact BK427.out) hb); replace HB := am (below_step (by repeat (with_reducible first | exact HB.out | apply bA | apply bN | apply bD | refine bS ?_ GE425.out | refine bS ?_ GE426.out | refine bS ?_ GE427.out)) hb); (try clear hb2); (try clear hb hk hi)))
    go_meet
    case rel => exact ⟨_, (true), (by first | rfl | (simp; done) | (simp [*]; done)), H', ⟨by first | omega | exact Nat.le_refl _⟩, ⟨by (with_reducible repeat (first | apply kB | apply kC | apply kE)); exact BK425.out⟩, ⟨by (with_reducible repeat (first | apply kB | apply kC | apply kE)); exact BK426.out⟩, ⟨by (with_reducible repeat (first | apply kB | apply kC | apply kE)); exact BK427.out⟩, ⟨by repeat (with_reducible first | exact HB.out | apply bA | apply bN | apply bD | refine bS ?_ GE425.out | refine bS ?_ GE426.out | refine bS ?_ GE427.out)⟩⟩
  ·replace c8 := Bool.eq_false_iff.mpr c8
   subst c8
   have H1 : (impl_JoinMeanders.j0 k true l0_0 l0_1 l1_0 l1_1) = some (r1, r2, r3) := by rw [if_neg (show ¬ (false = true) by decide)] at H; exact H
   clear H
   have H := H1
   clear H1
   have H' := am H
   clear H
   have hnb27 := NB425_426.out
   have hnc27 := NB426_425.out
   have hnb28 := NB425_427.out
   have hnc28 := NB427_425.out
   have hcz29_0 : w6.cell? ⟨gb425, 0, none⟩ = some (.slice A0_0 l0_0.length c0_0) := (blk_cell BK425.out 0).trans rfl
   have hcz29_1 : w6.cell? ⟨gb425, 1, none⟩ = some (.slice A0_1 l0_1.length c0_1) := (blk_cell BK425.out 1).trans rfl
   have hfz29_0 := blk_frozen BK425.out 0
   have hfz29_1 := blk_frozen BK425.out 1
   go_wp2_with (first | ((with_reducible refine gate_callee (f := 14) rfl ?_); refine goesL_ (some 7) rfl rfl Try.func14 (by kernel_rfl) rfl #[.agg #[.slice A0_0 l0_0.length c0_0, .slice A0_1 l0_1.length c0_1]] rfl (by (try simp only [mT, mC, mZ]); first | done | rfl) ?_; (with_reducible refine (impl_IsPair.calls k _ _ l0_0 _ _ l0_1 false _ ?side1 ?side2 ?side3 ?side4 A7.out).mono ?_); (case side1 => repeat (first | exact (Kd.C_below HR0_0.out HB.out) | (with_reducible first | apply cA | apply cN | apply cD))); (case side2 => exact HC0_0.out); (case side3 => repeat (first | exact (Kd.C_below HR0_1.out HB.out) | (with_reducible first | apply cA | apply cN | apply cD))); (case side4 => exact HC0_1.out); rintro e w30 ⟨rfl, hb⟩; refine ⟨_, rfl, ?_⟩; replace BK425 := am (blk_below (g := gb425) (by (with_reducible repeat (first | apply kB | apply kC | apply kE)); exact BK425.out) hb); replace BK426 := am (blk_below (g := gb426) (by (with_reducible repeat (first | apply kB | apply kC | apply kE)); exact BK426.out) hb); replace BK427 := am (blk_below (g := gb427) (by (with_reducible repeat (first | apply kB | apply kC | apply kE)); exact BK427.out) hb); replace HB := am (below_step (by repeat (with_reducible first | exact HB.out | apply bA | apply bN | apply bD | refine bS ?_ GE425.out | refine bS ?_ GE426.out | refine bS ?_ GE427.out)) hb); (try clear hb2); (try clear hb hk hi)))
   go_meet
   case rel => exact ⟨_, (true), (by first | rfl | (simp; done) | (simp [*]; done)), H', ⟨by first | omega | exact Nat.le_refl _⟩, ⟨by (with_reducible repeat (first | apply kB | apply kC | apply kE)); exact BK425.out⟩, ⟨by (with_reducible repeat (first | apply kB | apply kC | apply kE)); exact BK426.out⟩, ⟨by (with_reducible repeat (first | apply kB | apply kC | apply kE)); exact BK427.out⟩, ⟨by repeat (with_reducible first | exact HB.out | apply bA | apply bN | apply bD | refine bS ?_ GE425.out | refine bS ?_ GE426.out | refine bS ?_ GE427.out)⟩⟩
 case rest =>
  clear HC3
  try clear p2
  try clear p6
  try clear hcz13_0
  try clear hcz13_1
  try clear hcz16_0
  try clear hcz16_1
  try clear hcz18_0
  try clear hcz18_1
  try clear hcz19_0
  try clear hcz19_1
  try clear hcz22_0
  try clear hcz22_1
  try clear hcz25_0
  try clear hcz25_1
  try clear hcz29_0
  try clear hcz29_1
  try clear hfz13_0
  try clear hfz13_1
  try clear hfz16_0
  try clear hfz16_1
  try clear hfz18_0
  try clear hfz18_1
  try clear hfz19_0
  try clear hfz19_1
  try clear hfz22_0
  try clear hfz22_1
  try clear hfz25_0
  try clear hfz25_1
  try clear hfz29_0
  try clear hfz29_1
  obtain ⟨kq, x23_2, rfl, HA, HJ2, BK425, BK426, BK427, HB⟩ := hcut
  cases kq with
  | zero => exact absurd HA.out (by simp [impl_JoinMeanders.j0])
  | succ kj2 =>
   have H := HA.out
   clear HA
   simp only [impl_JoinMeanders.j0] at H
   by_cases c31 : x23_2 = true
   ·subst c31
    have H1 : (some (([] : List Int), ([] : List Int), false)) = some (r1, r2, r3) := by rw [if_pos rfl] at H; exact H
    clear H
    have H := H1
    clear H1
    simp only [Option.some.injEq, Prod.mk.injEq] at H
    obtain ⟨rfl, rfl, rfl⟩ := H
    have hnb32 := NB427_425.out
    have hnc32 := NB425_427.out
    have hnb33 := NB427_426.out
    have hnc33 := NB426_427.out
    have hcz34_0 : wc.cell? ⟨gb427, 0, none⟩ = some (.slice none 0 0) := (blk_cell BK427.out 0).trans rfl
    have hcz34_1 : wc.cell? ⟨gb427, 1, none⟩ = some (.slice none 0 0) := (blk_cell BK427.out 1).trans rfl
    have hfz34_0 := blk_frozen BK427.out 0
    have hfz34_1 := blk_frozen BK427.out 1
    go_wp2
    refine bodyPost_ret (results_ct rfl _ _ gb427 26 #[.slice none 0 0, .slice none 0 0] (0, 0) _ rfl (by (with_reducible repeat (first | apply kB | apply kC | apply kE)); refine blk_put (cs := #[.slice none 0 0, .slice none 0 0]) ?_ 1 _ rfl; (with_reducible repeat (first | apply kB | apply kC | apply kE)); refine blk_put (cs := #[.slice none 0 0, .slice none 0 0]) ?_ 0 _ rfl; (with_reducible repeat (first | apply kB | apply kC | apply kE)); exact BK427.out) Try.underlying26 rfl (by kernel_rfl)) rfl ?_
    exact ⟨_, _, by first | rfl | (simp [*, errW_none, errW_some] <;> rfl), by first | exact Kd.R_nil _ _ _ _ _ | exact Kd.N_nil _ _ _ _ _ | exact Kd.V_nil _ _ _ _ _ | exact Kd.Q_nil _ _ _ _ _ | exact Kd.S_nil _ _ _ _ _, by first | exact Kd.R_nil _ _ _ _ _ | exact Kd.N_nil _ _ _ _ _ | exact Kd.V_nil _ _ _ _ _ | exact Kd.Q_nil _ _ _ _ _ | exact Kd.S_nil _ _ _ _ _, by repeat (with_reducible first | exact HB.out | apply bA | apply bN | apply bD | refine bS ?_ GE425.out | refine bS ?_ GE426.out | refine bS ?_ GE427.out)⟩
   ·replace c31 := Bool.eq_false_iff.mpr c31
    subst c31
    have H1 : ((impl_joined.f kj2 l0_0 l1_0).bind fun t430 => ((impl_joined.f kj2 l0_1 l1_1).bind fun t433 => (some (t430, t433, true)))) = some (r1, r2, r3) := by rw [if_neg (show ¬ (false = true) by decide)] at H; exact H
    clear H
    have H := H1
    clear H1
    replace H := Option.bind_eq_some_iff.mp H
    obtain ⟨t430, A350, H⟩ := H
    replace H : ((impl_joined.f kj2 l0_1 l1_1).bind fun t433 => (some (t430, t433, true))) = some (r1, r2, r3) := H
    have A35 := am A350
    clear A350
    replace H := Option.bind_eq_some_iff.mp H
    obtain ⟨t433, A360, H⟩ := H
    replace H : (some (t430, t433, true)) = some (r1, r2, r3) := H
    have A36 := am A360
    clear A360
    simp only [Option.some.injEq, Prod.mk.injEq] at H
    obtain ⟨rfl, rfl, rfl⟩ := H
    try go_wp2
    replace BK425 := am (kC BK425.out)
    replace BK426 := am (kC BK426.out)
    replace BK427 := am (kC BK427.out)
    replace HB := am (below_drew1 HB.out)
    refine start_ (n := 13) (S := fun w' => w'.cell? ⟨gb425, 0, none⟩ = some (.slice A0_0 l0_0.length c0_0) ∧ w'.cell? ⟨gb425, 1, none⟩ = some (.slice A0_1 l0_1.length c0_1) ∧ w'.cell? ⟨gb426, 0, none⟩ = some (.slice A1_0 l1_0.length c1_0) ∧ w'.cell? ⟨gb426, 1, none⟩ = some (.slice A1_1 l1_1.length c1_1)) (ds := []) #[false, false, false, false, false, false, false, false, false, false, false, false, false] (by kernel_rfl) rfl rfl ⟨(blk_cell BK425.out 0).trans rfl, (blk_cell BK425.out 1).trans rfl, (blk_cell BK426.out 0).trans rfl, (blk_cell BK426.out 1).trans rfl⟩ (fun hHeld => ?_); refine with_tabW impl_JoinMeanders.tab3 impl_JoinMeanders.bits3 (fun HT_ HW_ => ?_)
    generalize wc.drew = w37 at BK425 BK426 BK427 HB hHeld ⊢
    refine pure_ (i := 0) (N := some 25) (v := ?_) (a' := ?_) #[true, false, false, false, false, false, false, false, false, false, false, false, false] rfl rfl (any_of HT_.out (by kernel_rfl)) (fun _ _ _ h => h) (Or.inl ⟨by rfl, ?_⟩) ?_ ?_
    rotate_left
    ·intro w'
     go_simp
     with_reducible rfl
    rotate_left
    ·simp only [Act.put, sI, s0_, s1_, i64_w, i32_w]
     rfl
    refine pure_ (i := 2) (N := some 27) (v := ?_) (a' := ?_) #[true, false, true, false, false, false, false, false, false, false, false, false, false] rfl rfl (any_of HT_.out (by kernel_rfl)) (fun _ _ _ h => h) (Or.inl ⟨by rfl, ?_⟩) ?_ ?_
    rotate_left
    ·intro w'
     go_simp
     with_reducible rfl
    rotate_left
    ·simp only [Act.put, sI, s0_, s1_, i64_w, i32_w]
     rfl
    refine pure_ (i := 5) (N := some 30) (v := ?_) (a' := ?_) #[true, false, true, false, false, true, false, false, false, false, false, false, false] rfl rfl (any_of HT_.out (by kernel_rfl)) (fun _ _ _ h => h) (Or.inl ⟨by rfl, ?_⟩) ?_ ?_
    rotate_left
    ·intro w'
     go_simp
     with_reducible rfl
    rotate_left
    ·simp only [Act.put, sI, s0_, s1_, i64_w, i32_w]
     rfl
    refine pure_ (i := 7) (N := some 32) (v := ?_) (a' := ?_) #[true, false, true, false, false, true, false, true, false, false, false, false, false] rfl rfl (any_of HT_.out (by kernel_rfl)) (fun _ _ _ h => h) (Or.inl ⟨by rfl, ?_⟩) ?_ ?_
    rotate_left
    ·intro w'
     go_simp
     with_reducible rfl
    rotate_left
    ·simp only [Act.put, sI, s0_, s1_, i64_w, i32_w]
     rfl
    refine take_ (i := 1) (N := some 26) (v := ?_) (a' := ?_) #[true, true, true, false, false, true, false, true, false, false, false, false, false] rfl rfl (take_ofW HT_.out HW_.out (by kernel_rfl)) (fun _ _ _ h => h) (Or.inl ⟨by rfl, ?_⟩) hHeld ?_ ?_
    rotate_left
    ·rintro w' ⟨s0, s1, s2, s3⟩
     go_simp
     with_reducible rfl
    rotate_left
    ·simp only [Act.put, sI, s0_, s1_, i64_w, i32_w]
     rfl
    refine take_ (i := 3) (N := some 28) (v := ?_) (a' := ?_) #[true, true, true, true, false, true, false, true, false, false, false, false, false] rfl rfl (take_ofW HT_.out HW_.out (by kernel_rfl)) (fun _ _ _ h => h) (Or.inl ⟨by rfl, ?_⟩) hHeld ?_ ?_
    rotate_left
    ·rintro w' ⟨s0, s1, s2, s3⟩
     go_simp
     with_reducible rfl
    rotate_left
    ·simp only [Act.put, sI, s0_, s1_, i64_w, i32_w]
     rfl
    refine take_ (i := 6) (N := some 31) (v := ?_) (a' := ?_) #[true, true, true, true, false, true, true, true, false, false, false, false, false] rfl rfl (take_ofW HT_.out HW_.out (by kernel_rfl)) (fun _ _ _ h => h) (Or.inl ⟨by rfl, ?_⟩) hHeld ?_ ?_
    rotate_left
    ·rintro w' ⟨s0, s1, s2, s3⟩
     go_simp
     with_reducible rfl
    rotate_left
    ·simp only [Act.put, sI, s0_, s1_, i64_w, i32_w]
     rfl
    refine take_ (i := 8) (N := some 33) (v := ?_) (a' := ?_) #[true, true, true, true, false, true, true, true, true, false, false, false, false] rfl rfl (take_ofW HT_.out HW_.out (by kernel_rfl)) (fun _ _ _ h => h) (Or.inl ⟨by rfl, ?_⟩) hHeld ?_ ?_
    rotate_left
    ·rintro w' ⟨s0, s1, s2, s3⟩
     go_simp
     with_reducible rfl
    rotate_left
    ·simp only [Act.put, sI, s0_, s1_, i64_w, i32_w]
     rfl
    refine one_ (i := 4) (N := some 29) #[true, true, true, true, true, true, true, true, true, false, false, false, false] rfl rfl (one_of HT_.out (by kernel_rfl)) (by decide) (fun K hK => ?_)
    refine goes_ Try.func64 (by kernel_rfl) rfl #[.slice A0_0 l0_0.length c0_0, .slice A1_0 l1_0.length c1_0] (by rfl) rfl rfl (by (try simp only [mT, mC, mZ]); first | done | rfl) ?_
    with_reducible refine (impl_joined.calls kj2 _ _ l0_0 _ _ l1_0 t430 _ ?side1 ?side2 ?side3 ?side4 A35.out).mono ?_
    (case side1 => repeat (first | exact (Kd.C_below HR0_0.out HB.out) | (with_reducible first | apply cA | apply cN | apply cD)))
    (case side2 => exact HC0_0.out)
    (case side3 => repeat (first | exact (Kd.C_below HR1_0.out HB.out) | (with_reducible first | apply cA | apply cN | apply cD)))
    (case side4 => exact HC1_0.out)
    rintro e w38 ⟨v431, rfl, ho0, hb⟩
    refine ⟨_, rfl, ?_⟩
    have HO432 := am (Kd.R_lower ho0 (below_size (by repeat (with_reducible first | exact HB.out | apply bA | apply bN | apply bD | refine bS ?_ GE425.out | refine bS ?_ GE426.out | refine bS ?_ GE427.out))))
    replace BK425 := am (blk_below (g := gb425) (by (with_reducible repeat (first | apply kB | apply kC | apply kE)); exact BK425.out) hb)
    replace BK426 := am (blk_below (g := gb426) (by (with_reducible repeat (first | apply kB | apply kC | apply kE)); exact BK426.out) hb)
    replace BK427 := am (blk_below (g := gb427) (by (with_reducible repeat (first | apply kB | apply kC | apply kE)); exact BK427.out) hb)
    replace HB := am (below_step (by repeat (with_reducible first | exact HB.out | apply bA | apply bN | apply bD | refine bS ?_ GE425.out | refine bS ?_ GE426.out | refine bS ?_ GE427.out)) hb)
    (try clear hb)
    (try clear hb2)
    (try clear hk)
    (try clear hi)
    (try clear ho0)
    refine hK.out _ _ ⟨(blk_cell BK425.out 0).trans rfl, (blk_cell BK425.out 1).trans rfl, (blk_cell BK426.out 0).trans rfl, (blk_cell BK426.out 1).trans rfl⟩ (fun hHeld => ?_)
    clear hK K
    refine norm_ (a' := ?_) ?_ ?_
    rotate_left
    ·show Act.put _ (some 29) _ = _
     simp only [Act.put, sI, s0_, s1_, i64_w, i32_w]
     rfl
    refine one_ (i := 9) (N := some 34) #[true, true, true, true, true, true, true, true, true, true, false, false, false] rfl rfl (one_of HT_.out (by kernel_rfl)) (by decide) (fun K hK => ?_)
    refine goes_ Try.func64 (by kernel_rfl) rfl #[.slice A0_1 l0_1.length c0_1, .slice A1_1 l1_1.length c1_1] (by rfl) rfl rfl (by (try simp only [mT, mC, mZ]); first | done | rfl) ?_
    with_reducible refine (impl_joined.calls kj2 _ _ l0_1 _ _ l1_1 t433 _ ?side1 ?side2 ?side3 ?side4 A36.out).mono ?_
    (case side1 => repeat (first | exact (Kd.C_below HR0_1.out HB.out) | (with_reducible first | apply cA | apply cN | apply cD)))
    (case side2 => exact HC0_1.out)
    (case side3 => repeat (first | exact (Kd.C_below HR1_1.out HB.out) | (with_reducible first | apply cA | apply cN | apply cD)))
    (case side4 => exact HC1_1.out)
    rintro e w39 ⟨v434, rfl, ho0, hb⟩
    refine ⟨_, rfl, ?_⟩
    have HO435 := am (Kd.R_lower (Kd.R_new' ho0 (Kd.R_lt (by (with_reducible repeat (first | apply rA | apply rN | apply rD)); exact HO432.out))) (below_size (by repeat (with_reducible first | exact HB.out | apply bA | apply bN | apply bD | refine bS ?_ GE425.out | refine bS ?_ GE426.out | refine bS ?_ GE427.out))))
    replace HO432 := am (Kd.R_elder' (by (with_reducible repeat (first | apply rA | apply rN | apply rD)); exact HO432.out) (Kd.R_base ho0) hb)
    replace BK425 := am (blk_below (g := gb425) (by (with_reducible repeat (first | apply kB | apply kC | apply kE)); exact BK425.out) hb)
    replace BK426 := am (blk_below (g := gb426) (by (with_reducible repeat (first | apply kB | apply kC | apply kE)); exact BK426.out) hb)
    replace BK427 := am (blk_below (g := gb427) (by (with_reducible repeat (first | apply kB | apply kC | apply kE)); exact BK427.out) hb)
    replace HB := am (below_step (by repeat (with_reducible first | exact HB.out | apply bA | apply bN | apply bD | refine bS ?_ GE425.out | refine bS ?_ GE426.out | refine bS ?_ GE427.out)) hb)
    (try clear hb)
    (try clear hb2)
    (try clear hk)
    (try clear hi)
    (try clear ho0)
    obtain ⟨Ao40, co40, eo40⟩ := Kd.R_slice HO435.out
    (first | subst eo40 | (injection eo40 with f1_ f2_ f3_; have f4_ := f1_.symm; have f5_ := f3_.symm; clear f1_ f2_ f3_; subst f4_; subst f5_))
    obtain ⟨Ao41, co41, eo41⟩ := Kd.R_slice HO432.out
    (first | subst eo41 | (injection eo41 with f1_ f2_ f3_; have f4_ := f1_.symm; have f5_ := f3_.symm; clear f1_ f2_ f3_; subst f4_; subst f5_))
    refine hK.out _ _ ⟨(blk_cell BK425.out 0).trans rfl, (blk_cell BK425.out 1).trans rfl, (blk_cell BK426.out 0).trans rfl, (blk_cell BK426.out 1).trans rfl⟩ (fun hHeld => ?_)
    clear hK K
    refine norm_ (a' := ?_) ?_ ?_
    rotate_left
    ·show Act.put _ (some 34) _ = _
     simp only [Act.put, sI, s0_, s1_, i64_w, i32_w]
     rfl
    refine pure_ (i := 10) (N := some 35) (v := ?_) (a' := ?_) #[true, true, true, true, true, true, true, true, true, true, true, false, false] rfl rfl (any_of HT_.out (by kernel_rfl)) (fun _ _ _ h => h) (Or.inl ⟨by rfl, ?_⟩) ?_ ?_
    rotate_left
    ·intro w'
     go_simp
     with_reducible rfl
    rotate_left
    ·simp only [Act.put, sI, s0_, s1_, i64_w, i32_w]
     rfl
    refine one_ (i := 11) (N := none) #[true, true, true, true, true, true, true, true, true, true, true, true, false] rfl rfl (one_of HT_.out (by kernel_rfl)) (by decide) (fun K hK => ?_)
    have hs42 : w39.cell? ⟨gb427, 0, none⟩ = some (.slice none 0 0) := (blk_cell BK427.out 0).trans rfl
    have hfs42 := blk_frozen BK427.out 0
    have hns42_0 := NB425_427.out
    have hns42_1 := NB426_427.out
    have hms42_0 := NB427_425.out
    have hms42_1 := NB427_426.out
    have hs43 : w39.cell? ⟨gb427, 1, none⟩ = some (.slice none 0 0) := (blk_cell BK427.out 1).trans rfl
    have hfs43 := blk_frozen BK427.out 1
    have hns43_0 := NB425_427.out
    have hns43_1 := NB426_427.out
    have hms43_0 := NB427_425.out
    have hms43_1 := NB427_426.out
    refine skip_ (w1 := ?_) (by rfl) rfl ?_ ?_
    rotate_left
    ·go_simp
     rfl
    refine hK.out _ _ ⟨((cell_far (p := ⟨gb427, _, none⟩) NB425_427.out _).trans (((cell_far (p := ⟨gb427, _, none⟩) NB425_427.out _).trans (hHeld.1)))), ((cell_far (p := ⟨gb427, _, none⟩) NB425_427.out _).trans (((cell_far (p := ⟨gb427, _, none⟩) NB425_427.out _).trans (hHeld.2.1)))), ((cell_far (p := ⟨gb427, _, none⟩) NB426_427.out _).trans (((cell_far (p := ⟨gb427, _, none⟩) NB426_427.out _).trans (hHeld.2.2.1)))), ((cell_far (p := ⟨gb427, _, none⟩) NB426_427.out _).trans (((cell_far (p := ⟨gb427, _, none⟩) NB426_427.out _).trans (hHeld.2.2.2))))⟩ (fun hHeld => ?_)
    clear hK K
    refine pure_ (i := 12) (N := some 5) (v := ?_) (a' := ?_) #[true, true, true, true, true, true, true, true, true, true, true, true, true] rfl rfl (any_of HT_.out (by kernel_rfl)) (fun _ _ _ h => h) (Or.inl ⟨by rfl, ?_⟩) ?_ ?_
    rotate_left
    ·intro w'
     go_simp
     with_reducible rfl
    rotate_left
    ·simp only [Act.put, sI, s0_, s1_, i64_w, i32_w]
     rfl
    refine done_ (done_of HT_.out (by kernel_rfl)) ?_
    try go_wp2
    refine bodyPost_ret (results_ct rfl _ _ gb427 26 #[.slice Ao41 t430.length co41, .slice Ao40 t433.length co40] (0, 0) _ rfl (by (with_reducible repeat (first | apply kB | apply kC | apply kE)); refine blk_put (cs := #[.slice Ao41 t430.length co41, .slice none 0 0]) ?_ 1 _ rfl; (with_reducible repeat (first | apply kB | apply kC | apply kE)); refine blk_put (cs := #[.slice none 0 0, .slice none 0 0]) ?_ 0 _ rfl; (with_reducible repeat (first | apply kB | apply kC | apply kE)); exact BK427.out) Try.underlying26 rfl (by kernel_rfl)) rfl ?_
    exact ⟨_, _, by first | rfl | (simp [*, errW_none, errW_some] <;> rfl), by (with_reducible repeat (first | apply rA | apply rN | apply rD)); exact Kd.R_mono (Kd.R_far (p := ⟨gb427, 1, none⟩) (Kd.R_far (p := ⟨gb427, 0, none⟩) (Kd.R_types HO432.out BK427.out (by decide)) (fun _ hk => hk.2) (.slice Ao41 t430.length co41)) (fun _ hk => hk.2) (.slice Ao40 t433.length co40)) (fun _ hk => hk.1.2), by (with_reducible repeat (first | apply rA | apply rN | apply rD)); exact Kd.R_mono (Kd.R_far (p := ⟨gb427, 1, none⟩) (Kd.R_far (p := ⟨gb427, 0, none⟩) (Kd.R_types HO435.out BK427.out (by decide)) (fun _ hk => hk.2) (.slice Ao41 t430.length co41)) (fun _ hk => hk.2) (.slice Ao40 t433.length co40)) (fun _ hk => hk.1.2), by repeat (with_reducible first | exact HB.out | apply bA | apply bN | apply bD | refine bS ?_ GE425.out | refine bS ?_ GE426.out | refine bS ?_ GE427.out)⟩
end Go.Proofs.Ytfencncopkeobaa.QFnPairsMoved
