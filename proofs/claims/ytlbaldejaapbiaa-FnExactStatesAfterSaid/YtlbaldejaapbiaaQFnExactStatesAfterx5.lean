-- Written by wip/myprint.py (a program of mine round the kit's printer). Lean checks it.
import Derived.Test.YtlbaldejaapbiaaQFnExactStatesAfterx0
namespace Go.Proofs.Ytlbaldejaapbiaa.QFnExactStatesAfter
open Go.RowKit Go.Proofs.YtlbaldejaapbiaaW.PrintWords Go.Proofs.YtlbaldejaapbiaaW.PrintLast Go.Proofs.YtlbaldejaapbiaaW.PrintMore
attribute [local go_sem] max2_int min2_int max_two min_two max_three min_three max_four min_four
set_option linter.unusedVariables false
set_option linter.unusedSimpArgs false
set_option maxHeartbeats 8000000
set_option maxRecDepth 100000
def spec_stListLess.l0 : Nat → List Int → List Int → List Int → Int → Int → Option (Int)
 | 0, _, _, _, _, _ => none
 | k + 1, x0, x1, x7, x8, x9 => if x9 < x8 then (if 0 ≤ x9 then (if x9 < (x7.length : Int) then (if x9 ≥ (x1.length : Int) then (some 1) else (if x9 < (x1.length : Int) then (if (rd x7 x9) = (rd x1 x9) then (spec_stListLess.l0 k x0 x1 x7 x8 (wrap64 (x9 + 1))) else (some (wrap64 ((rd x7 x9) - (rd x1 x9))))) else (none))) else (none)) else (none)) else (some (wrap64 ((x0.length : Int) - (x1.length : Int))))
def spec_stListLess.f (k : Nat) (l0 : List Int) (l1 : List Int) : Option (Int) := spec_stListLess.l0 k l0 l1 l0 (l0.length : Int) 0
theorem spec_stListLess.mono_l : ∀ k, (∀ y0 y1 y2 y3 y4, LeO (spec_stListLess.l0 k y0 y1 y2 y3 y4) (spec_stListLess.l0 (k + 1) y0 y1 y2 y3 y4))
 | 0 => fun _ _ _ _ _ r h => by simp [spec_stListLess.l0] at h
 | k + 1 => by
  have ih0 := spec_stListLess.mono_l k
  ·intro y0 y1 y2 y3 y4
   unfold spec_stListLess.l0
   repeat' first
    | (with_reducible first | exact ih0 _ _ _ _ _ | exact LeO.refl _ | exact LeO.none _ | refine LeO.ite ?_ ?_ | refine LeO.bind ?_ (fun _ => ?_))
    | exact LeO.none _
    | refine LeO.ite ?_ ?_
    | refine LeO.bind ?_ (fun _ => ?_)
theorem spec_stListLess.mono : ∀ a0 a1 k, LeO (spec_stListLess.f k a0 a1) (spec_stListLess.f (k + 1) a0 a1) := by
 intro a0 a1 k
 have ih0 := spec_stListLess.mono_l k
 unfold spec_stListLess.f
 repeat' first
  | (with_reducible first | exact ih0 _ _ _ _ _ | exact LeO.refl _ | exact LeO.none _ | refine LeO.ite ?_ ?_ | refine LeO.bind ?_ (fun _ => ?_))
  | exact LeO.none _
  | refine LeO.ite ?_ ?_
  | refine LeO.bind ?_ (fun _ => ?_)
theorem spec_stListLess.calls (k : Nat) (A0 : Option Addr) (c0 : Nat) (l0 : List Int) (A1 : Option Addr) (c1 : Nat) (l1 : List Int) (r : Int) (w : World) (hr0 : Kd.C (Kd.int .i64) w A0 l0.length l0) (hc0 : l0.length ≤ c0) (hr1 : Kd.C (Kd.int .i64) w A1 l1.length l1) (hc1 : l1.length ≤ c1) (h : spec_stListLess.f k l0 l1 = some r) :
 Calls Try.prog 99 #[.slice A0 l0.length c0, .slice A1 l1.length c1] w fun e w' => e = .returned (.int .i64 r) ∧ Drawn0 w w' := by
 have HR0 := am hr0
 have HC0 := am hc0
 clear hr0 hc0
 have HR1 := am hr1
 have HC1 := am hc1
 clear hr1 hc1
 have H : (spec_stListLess.l0 k l0 l1 l0 (l0.length : Int) 0) = some r := h
 clear h
 have H' := am H
 clear H
 go_enter Try.func99, Try.ntmps99
 go_wp2
 go_loopg [9] k (fun kq v9 w' => ∃ (x9_1 : Int), v9 = .int .i64 x9_1 ∧ Aside0 (spec_stListLess.l0 kq l0 l1 l0 (l0.length : Int) x9_1 = some r) ∧ Aside0 (kq ≤ k) ∧ Drawn0 w w')
 case atStart => exact ⟨(0), (by first | rfl | (simp; done) | (simp [*]; done)), H', ⟨Nat.le_refl _⟩, by repeat (first | exact Drawn0.refl _ | apply Drawn0.step)⟩
 case round =>
  clear H'
  try clear p2
  obtain ⟨x9_1, rfl, HA, HK1, ⟨m1, rfl⟩⟩ := hrel
  cases gk with
  | zero => exact absurd HA.out (by simp [spec_stListLess.l0])
  | succ k1 =>
   have H := HA.out
   clear HA
   simp only [spec_stListLess.l0] at H
   by_cases c3 : x9_1 < (l0.length : Int)
   ·rw [if_pos c3] at H
    have c3b0 : decide (x9_1 < (l0.length : Int)) = true := decide_eq_true c3
    clear c3
    by_cases c4 : 0 ≤ x9_1
    ·rw [if_pos c4] at H
     have c4b0 : decide (0 ≤ x9_1) = true := decide_eq_true c4
     clear c4
     by_cases c5 : x9_1 < (l0.length : Int)
     ·rw [if_pos c5] at H
      have c5b0 : decide (x9_1 < (l0.length : Int)) = true := decide_eq_true c5
      clear c5
      by_cases c6 : x9_1 ≥ (l1.length : Int)
      ·rw [if_pos c6] at H
       have c6b0 : decide ((l1.length : Int) ≤ x9_1) = true := decide_eq_true c6
       clear c6
       obtain rfl := Option.some.inj H
       have p242 : 0 ≤ (x9_1 : Int) := ofd (by assumption)
       have q242 : x9_1 < (l0.length : Int) := ofd (by assumption)
       obtain ⟨ad242, e242, hx242_0⟩ := Kd.at_int HR0.out x9_1 p242 q242
       cases e242
       replace p242 := eq_true p242
       replace q242 := eq_true q242
       go_wp2
       go_ret
       exact ⟨by first | rfl | (simp; done) | (simp [*]; done), by repeat (first | exact Drawn0.refl _ | apply Drawn0.step)⟩
      ·rw [if_neg c6] at H
       have c6b0 : decide ((l1.length : Int) ≤ x9_1) = false := decide_eq_false c6
       clear c6
       by_cases c7 : x9_1 < (l1.length : Int)
       ·rw [if_pos c7] at H
        have c7b0 : decide (x9_1 < (l1.length : Int)) = true := decide_eq_true c7
        clear c7
        by_cases c8 : (rd l0 x9_1) = (rd l1 x9_1)
        ·rw [if_pos c8] at H
         have c8b0 : ((rd l0 x9_1) == (rd l1 x9_1)) = true := beq_iff_eq.mpr c8
         have c8b1 : ((rd l0 x9_1) != (rd l1 x9_1)) = false := bne_eq_false_iff_eq.mpr c8
         clear c8
         have H' := am H
         clear H
         have p242 : 0 ≤ (x9_1 : Int) := ofd (by assumption)
         have q242 : x9_1 < (l0.length : Int) := ofd (by assumption)
         obtain ⟨ad242, e242, hx242_0⟩ := Kd.at_int HR0.out x9_1 p242 q242
         cases e242
         replace p242 := eq_true p242
         replace q242 := eq_true q242
         have p243 : 0 ≤ (x9_1 : Int) := ofd (by assumption)
         have q243 : x9_1 < (l1.length : Int) := ofd (by assumption)
         obtain ⟨ad243, e243, hx243_0⟩ := Kd.at_int HR1.out x9_1 p243 q243
         cases e243
         replace p243 := eq_true p243
         replace q243 := eq_true q243
         go_wp2
         go_roundg k1
         case measure => have := HK1.out; omega
         case rel => exact ⟨(wrap64 (x9_1 + 1)), (by first | rfl | (simp; done) | (simp [*]; done)), H', ⟨by have := HK1.out; omega⟩, by repeat (first | exact Drawn0.refl _ | apply Drawn0.step)⟩
        ·rw [if_neg c8] at H
         have c8b0 : ((rd l0 x9_1) == (rd l1 x9_1)) = false := beq_eq_false_iff_ne.mpr c8
         have c8b1 : ((rd l0 x9_1) != (rd l1 x9_1)) = true := bne_iff_ne.mpr c8
         obtain rfl := Option.some.inj H
         have p242 : 0 ≤ (x9_1 : Int) := ofd (by assumption)
         have q242 : x9_1 < (l0.length : Int) := ofd (by assumption)
         obtain ⟨ad242, e242, hx242_0⟩ := Kd.at_int HR0.out x9_1 p242 q242
         cases e242
         replace p242 := eq_true p242
         replace q242 := eq_true q242
         have p243 : 0 ≤ (x9_1 : Int) := ofd (by assumption)
         have q243 : x9_1 < (l1.length : Int) := ofd (by assumption)
         obtain ⟨ad243, e243, hx243_0⟩ := Kd.at_int HR1.out x9_1 p243 q243
         cases e243
         replace p243 := eq_true p243
         replace q243 := eq_true q243
         have p244 : 0 ≤ (x9_1 : Int) := ofd (by assumption)
         have q244 : x9_1 < (l1.length : Int) := ofd (by assumption)
         obtain ⟨ad244, e244, hx244_0⟩ := Kd.at_int HR1.out x9_1 p244 q244
         obtain rfl : ad243 = ad244 := (by injection e244)
         replace p244 := eq_true p244
         replace q244 := eq_true q244
         go_wp2
         go_ret
         exact ⟨by first | rfl | (simp; done) | (simp [*]; done), by repeat (first | exact Drawn0.refl _ | apply Drawn0.step)⟩
       ·rw [if_neg c7] at H
        exact absurd H (by simp)
     ·rw [if_neg c5] at H
      exact absurd H (by simp)
    ·rw [if_neg c4] at H
     exact absurd H (by simp)
   ·rw [if_neg c3] at H
    have c3b0 : decide (x9_1 < (l0.length : Int)) = false := decide_eq_false c3
    clear c3
    obtain rfl := Option.some.inj H
    go_wp2
    go_ret
    exact ⟨by first | rfl | (simp; done) | (simp [*]; done), by repeat (first | exact Drawn0.refl _ | apply Drawn0.step)⟩
def spec_stLess.f (k : Nat) (l0_0 : List Int) (l0_1 : List Int) (a0_2 : Int) (l1_0 : List Int) (l1_1 : List Int) (a1_2 : Int) : Option (Bool) := if (l0_0.length : Int) = (l1_0.length : Int) then ((spec_stListLess.f k l0_0 l1_0).bind fun t247 => (if t247 = 0 then ((spec_stListLess.f k l0_1 l1_1).bind fun t248 => (if t248 = 0 then (some (decide (a0_2 < a1_2))) else (some (decide (t248 < 0))))) else (some (decide (t247 < 0))))) else (some (decide ((l0_0.length : Int) < (l1_0.length : Int))))
theorem spec_stLess.mono : ∀ a0 a1 a2 a3 a4 a5 k, LeO (spec_stLess.f k a0 a1 a2 a3 a4 a5) (spec_stLess.f (k + 1) a0 a1 a2 a3 a4 a5) := by
 intro a0 a1 a2 a3 a4 a5 k
 unfold spec_stLess.f
 repeat' first
  | (with_reducible first | exact spec_stListLess.mono _ _ _ | exact LeO.refl _ | exact LeO.none _ | refine LeO.ite ?_ ?_ | refine LeO.bind ?_ (fun _ => ?_))
  | exact LeO.none _
  | refine LeO.ite ?_ ?_
  | refine LeO.bind ?_ (fun _ => ?_)
theorem spec_stLess.calls (k : Nat) (A0_0 : Option Addr) (c0_0 : Nat) (l0_0 : List Int) (A0_1 : Option Addr) (c0_1 : Nat) (l0_1 : List Int) (a0_2 : Int) (A1_0 : Option Addr) (c1_0 : Nat) (l1_0 : List Int) (A1_1 : Option Addr) (c1_1 : Nat) (l1_1 : List Int) (a1_2 : Int) (r : Bool) (w : World) (hr0_0 : Kd.C (Kd.int .i64) w A0_0 l0_0.length l0_0) (hc0_0 : l0_0.length ≤ c0_0) (hr0_1 : Kd.C (Kd.int .i64) w A0_1 l0_1.length l0_1) (hc0_1 : l0_1.length ≤ c0_1) (hr1_0 : Kd.C (Kd.int .i64) w A1_0 l1_0.length l1_0) (hc1_0 : l1_0.length ≤ c1_0) (hr1_1 : Kd.C (Kd.int .i64) w A1_1 l1_1.length l1_1) (hc1_1 : l1_1.length ≤ c1_1) (h : spec_stLess.f k l0_0 l0_1 a0_2 l1_0 l1_1 a1_2 = some r) :
 Calls Try.prog 87 #[.agg #[.slice A0_0 l0_0.length c0_0, .slice A0_1 l0_1.length c0_1, .int .i64 a0_2], .agg #[.slice A1_0 l1_0.length c1_0, .slice A1_1 l1_1.length c1_1, .int .i64 a1_2]] w fun e w' => e = .returned (.bool r) ∧ Below w.heap.size w w' := by
 have hu27 := Try.underlying27
 have HR0_0 := am hr0_0
 have HC0_0 := am hc0_0
 clear hr0_0 hc0_0
 have HR0_1 := am hr0_1
 have HC0_1 := am hc0_1
 clear hr0_1 hc0_1
 have HR1_0 := am hr1_0
 have HC1_0 := am hc1_0
 clear hr1_0 hc1_0
 have HR1_1 := am hr1_1
 have HC1_1 := am hc1_1
 clear hr1_1 hc1_1
 have HB := am (Below.refl w.heap.size w)
 have H : (if (l0_0.length : Int) = (l1_0.length : Int) then ((spec_stListLess.f k l0_0 l1_0).bind fun t247 => (if t247 = 0 then ((spec_stListLess.f k l0_1 l1_1).bind fun t248 => (if t248 = 0 then (some (decide (a0_2 < a1_2))) else (some (decide (t248 < 0))))) else (some (decide (t247 < 0))))) else (some (decide ((l0_0.length : Int) < (l1_0.length : Int))))) = some r := h
 clear h
 by_cases c3 : (l0_0.length : Int) = (l1_0.length : Int)
 ·rw [if_pos c3] at H
  have c3b0 : ((l0_0.length : Int) == (l1_0.length : Int)) = true := beq_iff_eq.mpr c3
  have c3b1 : ((l0_0.length : Int) != (l1_0.length : Int)) = false := bne_eq_false_iff_eq.mpr c3
  have c3b2 : (l0_0.length == l1_0.length) = true := by first | simpa using c3 | (simp at c3 ⊢; omega)
  clear c3
  replace H := Option.bind_eq_some_iff.mp H
  obtain ⟨t247, A40, H⟩ := H
  replace H : (if t247 = 0 then ((spec_stListLess.f k l0_1 l1_1).bind fun t248 => (if t248 = 0 then (some (decide (a0_2 < a1_2))) else (some (decide (t248 < 0))))) else (some (decide (t247 < 0)))) = some r := H
  have A4 := am A40
  clear A40
  by_cases c5 : t247 = 0
  ·rw [if_pos c5] at H
   have c5b0 : (t247 == 0) = true := beq_iff_eq.mpr c5
   have c5b1 : (t247 != 0) = false := bne_eq_false_iff_eq.mpr c5
   clear c5
   replace H := Option.bind_eq_some_iff.mp H
   obtain ⟨t248, A60, H⟩ := H
   replace H : (if t248 = 0 then (some (decide (a0_2 < a1_2))) else (some (decide (t248 < 0)))) = some r := H
   have A6 := am A60
   clear A60
   by_cases c7 : t248 = 0
   ·rw [if_pos c7] at H
    have c7b0 : (t248 == 0) = true := beq_iff_eq.mpr c7
    have c7b1 : (t248 != 0) = false := bne_eq_false_iff_eq.mpr c7
    clear c7
    obtain rfl := Option.some.inj H
    go_enter Try.func87, Try.ntmps87
    go_wp2_with (first | ((with_reducible refine gate_dst (N := 2) rfl ?_); refine box_event ?hg (N := 2) ?hd (cs := #[.slice A0_0 l0_0.length c0_0, .slice A0_1 l0_1.length c0_1, .int .i64 a0_2]) (t := 27) ?hr ?_; (case hd => rfl); (case hg => rfl); (case hr => first | (go_simp; done) | (go_simp; rfl)); intro gb245 hg w8 hbox hb; have BK245 := am (hbox); have GW245 := am ((by rw [hg]; exact (below_size (by repeat (with_reducible first | exact HB.out | apply bA | apply bN | apply bD))) : w.heap.size ≤ gb245)); have GE245 := am ((by rw [hg]; exact (below_size (by repeat (with_reducible first | exact HB.out | apply bA | apply bN | apply bD))) : w.heap.size ≤ gb245)); replace HB := am (below_step (by repeat (with_reducible first | exact HB.out | apply bA | apply bN | apply bD)) hb); clear hb hbox hg) | ((with_reducible refine gate_dst (N := 3) rfl ?_); refine box_event ?hg (N := 3) ?hd (cs := #[.slice A1_0 l1_0.length c1_0, .slice A1_1 l1_1.length c1_1, .int .i64 a1_2]) (t := 27) ?hr ?_; (case hd => rfl); (case hg => rfl); (case hr => first | (go_simp; done) | (go_simp; rfl)); intro gb246 hg w9 hbox hb; have BK246 := am (hbox); have GW246 := am ((by rw [hg]; exact (below_size (by repeat (with_reducible first | exact HB.out | apply bA | apply bN | apply bD | refine bS ?_ GE245.out))) : w.heap.size ≤ gb246)); have GE246 := am ((by rw [hg]; exact (below_size (by repeat (with_reducible first | exact HB.out | apply bA | apply bN | apply bD | refine bS ?_ GE245.out))) : w.heap.size ≤ gb246)); replace HB := am (below_step (by repeat (with_reducible first | exact HB.out | apply bA | apply bN | apply bD | refine bS ?_ GE245.out)) hb); have NB245_246 := am ((by rw [hg]; exact Nat.ne_of_lt (blk_lt (g := gb245) (by (with_reducible repeat (first | apply kB | apply kC | apply kE)); exact BK245.out)) : gb245 ≠ gb246)); have NB246_245 := am ((by rw [hg]; exact Nat.ne_of_gt (blk_lt (g := gb245) (by (with_reducible repeat (first | apply kB | apply kC | apply kE)); exact BK245.out)) : gb246 ≠ gb245)); replace BK245 := am (blk_below (g := gb245) (by (with_reducible repeat (first | apply kB | apply kC | apply kE)); exact BK245.out) hb); clear hb hbox hg; have hnb10 := NB245_246.out; have hnc10 := NB246_245.out; have hcz11_0 : w9.cell? ⟨gb245, 0, none⟩ = some (.slice A0_0 l0_0.length c0_0) := (blk_cell BK245.out 0).trans rfl; have hcz11_1 : w9.cell? ⟨gb245, 1, none⟩ = some (.slice A0_1 l0_1.length c0_1) := (blk_cell BK245.out 1).trans rfl; have hcz11_2 : w9.cell? ⟨gb245, 2, none⟩ = some (.int .i64 a0_2) := (blk_cell BK245.out 2).trans rfl; have hfz11_0 := blk_frozen BK245.out 0; have hfz11_1 := blk_frozen BK245.out 1; have hfz11_2 := blk_frozen BK245.out 2; have hcz12_0 : w9.cell? ⟨gb246, 0, none⟩ = some (.slice A1_0 l1_0.length c1_0) := (blk_cell BK246.out 0).trans rfl; have hcz12_1 : w9.cell? ⟨gb246, 1, none⟩ = some (.slice A1_1 l1_1.length c1_1) := (blk_cell BK246.out 1).trans rfl; have hcz12_2 : w9.cell? ⟨gb246, 2, none⟩ = some (.int .i64 a1_2) := (blk_cell BK246.out 2).trans rfl; have hfz12_0 := blk_frozen BK246.out 0; have hfz12_1 := blk_frozen BK246.out 1; have hfz12_2 := blk_frozen BK246.out 2) | ((with_reducible refine gate_callee (f := 99) rfl ?_); refine goesL_ (some 25) rfl rfl Try.func99 (by kernel_rfl) rfl #[.slice A0_0 l0_0.length c0_0, .slice A1_0 l1_0.length c1_0] rfl (by (try simp only [mT, mC, mZ]); first | done | rfl) ?_; (with_reducible refine (spec_stListLess.calls k _ _ l0_0 _ _ l1_0 t247 _ ?side1 ?side2 ?side3 ?side4 A4.out).mono ?_); (case side1 => repeat (first | exact (Kd.C_below HR0_0.out HB.out) | (with_reducible first | apply cA | apply cN | apply cD))); (case side2 => exact HC0_0.out); (case side3 => repeat (first | exact (Kd.C_below HR1_0.out HB.out) | (with_reducible first | apply cA | apply cN | apply cD))); (case side4 => exact HC1_0.out); rintro e w' ⟨rfl, ⟨nd, rfl⟩⟩; refine ⟨_, rfl, ?_⟩) | ((with_reducible refine gate_callee (f := 99) rfl ?_); refine goesL_ (some 34) rfl rfl Try.func99 (by kernel_rfl) rfl #[.slice A0_1 l0_1.length c0_1, .slice A1_1 l1_1.length c1_1] rfl (by (try simp only [mT, mC, mZ]); first | done | rfl) ?_; (with_reducible refine (spec_stListLess.calls k _ _ l0_1 _ _ l1_1 t248 _ ?side1 ?side2 ?side3 ?side4 A6.out).mono ?_); (case side1 => repeat (first | exact (Kd.C_below HR0_1.out (by repeat (with_reducible first | exact HB.out | apply bA | apply bN | apply bD | refine bS ?_ GE245.out | refine bS ?_ GE246.out))) | (with_reducible first | apply cA | apply cN | apply cD))); (case side2 => exact HC0_1.out); (case side3 => repeat (first | exact (Kd.C_below HR1_1.out (by repeat (with_reducible first | exact HB.out | apply bA | apply bN | apply bD | refine bS ?_ GE245.out | refine bS ?_ GE246.out))) | (with_reducible first | apply cA | apply cN | apply cD))); (case side4 => exact HC1_1.out); rintro e w' ⟨rfl, ⟨nd, rfl⟩⟩; refine ⟨_, rfl, ?_⟩))
    go_ret
    exact ⟨by first | rfl | (simp [*, errW_none, errW_some] <;> rfl), by repeat (with_reducible first | exact HB.out | apply bA | apply bN | apply bD | refine bS ?_ GE245.out | refine bS ?_ GE246.out)⟩
   ·rw [if_neg c7] at H
    have c7b0 : (t248 == 0) = false := beq_eq_false_iff_ne.mpr c7
    have c7b1 : (t248 != 0) = true := bne_iff_ne.mpr c7
    obtain rfl := Option.some.inj H
    go_enter Try.func87, Try.ntmps87
    go_wp2_with (first | ((with_reducible refine gate_dst (N := 2) rfl ?_); refine box_event ?hg (N := 2) ?hd (cs := #[.slice A0_0 l0_0.length c0_0, .slice A0_1 l0_1.length c0_1, .int .i64 a0_2]) (t := 27) ?hr ?_; (case hd => rfl); (case hg => rfl); (case hr => first | (go_simp; done) | (go_simp; rfl)); intro gb245 hg w13 hbox hb; have BK245 := am (hbox); have GW245 := am ((by rw [hg]; exact (below_size (by repeat (with_reducible first | exact HB.out | apply bA | apply bN | apply bD))) : w.heap.size ≤ gb245)); have GE245 := am ((by rw [hg]; exact (below_size (by repeat (with_reducible first | exact HB.out | apply bA | apply bN | apply bD))) : w.heap.size ≤ gb245)); replace HB := am (below_step (by repeat (with_reducible first | exact HB.out | apply bA | apply bN | apply bD)) hb); clear hb hbox hg) | ((with_reducible refine gate_dst (N := 3) rfl ?_); refine box_event ?hg (N := 3) ?hd (cs := #[.slice A1_0 l1_0.length c1_0, .slice A1_1 l1_1.length c1_1, .int .i64 a1_2]) (t := 27) ?hr ?_; (case hd => rfl); (case hg => rfl); (case hr => first | (go_simp; done) | (go_simp; rfl)); intro gb246 hg w14 hbox hb; have BK246 := am (hbox); have GW246 := am ((by rw [hg]; exact (below_size (by repeat (with_reducible first | exact HB.out | apply bA | apply bN | apply bD | refine bS ?_ GE245.out))) : w.heap.size ≤ gb246)); have GE246 := am ((by rw [hg]; exact (below_size (by repeat (with_reducible first | exact HB.out | apply bA | apply bN | apply bD | refine bS ?_ GE245.out))) : w.heap.size ≤ gb246)); replace HB := am (below_step (by repeat (with_reducible first | exact HB.out | apply bA | apply bN | apply bD | refine bS ?_ GE245.out)) hb); have NB245_246 := am ((by rw [hg]; exact Nat.ne_of_lt (blk_lt (g := gb245) (by (with_reducible repeat (first | apply kB | apply kC | apply kE)); exact BK245.out)) : gb245 ≠ gb246)); have NB246_245 := am ((by rw [hg]; exact Nat.ne_of_gt (blk_lt (g := gb245) (by (with_reducible repeat (first | apply kB | apply kC | apply kE)); exact BK245.out)) : gb246 ≠ gb245)); replace BK245 := am (blk_below (g := gb245) (by (with_reducible repeat (first | apply kB | apply kC | apply kE)); exact BK245.out) hb); clear hb hbox hg; have hnb15 := NB245_246.out; have hnc15 := NB246_245.out; have hcz16_0 : w14.cell? ⟨gb245, 0, none⟩ = some (.slice A0_0 l0_0.length c0_0) := (blk_cell BK245.out 0).trans rfl; have hcz16_1 : w14.cell? ⟨gb245, 1, none⟩ = some (.slice A0_1 l0_1.length c0_1) := (blk_cell BK245.out 1).trans rfl; have hcz16_2 : w14.cell? ⟨gb245, 2, none⟩ = some (.int .i64 a0_2) := (blk_cell BK245.out 2).trans rfl; have hfz16_0 := blk_frozen BK245.out 0; have hfz16_1 := blk_frozen BK245.out 1; have hfz16_2 := blk_frozen BK245.out 2; have hcz17_0 : w14.cell? ⟨gb246, 0, none⟩ = some (.slice A1_0 l1_0.length c1_0) := (blk_cell BK246.out 0).trans rfl; have hcz17_1 : w14.cell? ⟨gb246, 1, none⟩ = some (.slice A1_1 l1_1.length c1_1) := (blk_cell BK246.out 1).trans rfl; have hcz17_2 : w14.cell? ⟨gb246, 2, none⟩ = some (.int .i64 a1_2) := (blk_cell BK246.out 2).trans rfl; have hfz17_0 := blk_frozen BK246.out 0; have hfz17_1 := blk_frozen BK246.out 1; have hfz17_2 := blk_frozen BK246.out 2) | ((with_reducible refine gate_callee (f := 99) rfl ?_); refine goesL_ (some 25) rfl rfl Try.func99 (by kernel_rfl) rfl #[.slice A0_0 l0_0.length c0_0, .slice A1_0 l1_0.length c1_0] rfl (by (try simp only [mT, mC, mZ]); first | done | rfl) ?_; (with_reducible refine (spec_stListLess.calls k _ _ l0_0 _ _ l1_0 t247 _ ?side1 ?side2 ?side3 ?side4 A4.out).mono ?_); (case side1 => repeat (first | exact (Kd.C_below HR0_0.out HB.out) | (with_reducible first | apply cA | apply cN | apply cD))); (case side2 => exact HC0_0.out); (case side3 => repeat (first | exact (Kd.C_below HR1_0.out HB.out) | (with_reducible first | apply cA | apply cN | apply cD))); (case side4 => exact HC1_0.out); rintro e w' ⟨rfl, ⟨nd, rfl⟩⟩; refine ⟨_, rfl, ?_⟩) | ((with_reducible refine gate_callee (f := 99) rfl ?_); refine goesL_ (some 34) rfl rfl Try.func99 (by kernel_rfl) rfl #[.slice A0_1 l0_1.length c0_1, .slice A1_1 l1_1.length c1_1] rfl (by (try simp only [mT, mC, mZ]); first | done | rfl) ?_; (with_reducible refine (spec_stListLess.calls k _ _ l0_1 _ _ l1_1 t248 _ ?side1 ?side2 ?side3 ?side4 A6.out).mono ?_); (case side1 => repeat (first | exact (Kd.C_below HR0_1.out (by repeat (with_reducible first | exact HB.out | apply bA | apply bN | apply bD | refine bS ?_ GE245.out | refine bS ?_ GE246.out))) | (with_reducible first | apply cA | apply cN | apply cD))); (case side2 => exact HC0_1.out); (case side3 => repeat (first | exact (Kd.C_below HR1_1.out (by repeat (with_reducible first | exact HB.out | apply bA | apply bN | apply bD | refine bS ?_ GE245.out | refine bS ?_ GE246.out))) | (with_reducible first | apply cA | apply cN | apply cD))); (case side4 => exact HC1_1.out); rintro e w' ⟨rfl, ⟨nd, rfl⟩⟩; refine ⟨_, rfl, ?_⟩))
    go_ret
    exact ⟨by first | rfl | (simp [*, errW_none, errW_some] <;> rfl), by repeat (with_reducible first | exact HB.out | apply bA | apply bN | apply bD | refine bS ?_ GE245.out | refine bS ?_ GE246.out)⟩
  ·rw [if_neg c5] at H
   have c5b0 : (t247 == 0) = false := beq_eq_false_iff_ne.mpr c5
   have c5b1 : (t247 != 0) = true := bne_iff_ne.mpr c5
   obtain rfl := Option.some.inj H
   go_enter Try.func87, Try.ntmps87
   go_wp2_with (first | ((with_reducible refine gate_dst (N := 2) rfl ?_); refine box_event ?hg (N := 2) ?hd (cs := #[.slice A0_0 l0_0.length c0_0, .slice A0_1 l0_1.length c0_1, .int .i64 a0_2]) (t := 27) ?hr ?_; (case hd => rfl); (case hg => rfl); (case hr => first | (go_simp; done) | (go_simp; rfl)); intro gb245 hg w18 hbox hb; have BK245 := am (hbox); have GW245 := am ((by rw [hg]; exact (below_size (by repeat (with_reducible first | exact HB.out | apply bA | apply bN | apply bD))) : w.heap.size ≤ gb245)); have GE245 := am ((by rw [hg]; exact (below_size (by repeat (with_reducible first | exact HB.out | apply bA | apply bN | apply bD))) : w.heap.size ≤ gb245)); replace HB := am (below_step (by repeat (with_reducible first | exact HB.out | apply bA | apply bN | apply bD)) hb); clear hb hbox hg) | ((with_reducible refine gate_dst (N := 3) rfl ?_); refine box_event ?hg (N := 3) ?hd (cs := #[.slice A1_0 l1_0.length c1_0, .slice A1_1 l1_1.length c1_1, .int .i64 a1_2]) (t := 27) ?hr ?_; (case hd => rfl); (case hg => rfl); (case hr => first | (go_simp; done) | (go_simp; rfl)); intro gb246 hg w19 hbox hb; have BK246 := am (hbox); have GW246 := am ((by rw [hg]; exact (below_size (by repeat (with_reducible first | exact HB.out | apply bA | apply bN | apply bD | refine bS ?_ GE245.out))) : w.heap.size ≤ gb246)); have GE246 := am ((by rw [hg]; exact (below_size (by repeat (with_reducible first | exact HB.out | apply bA | apply bN | apply bD | refine bS ?_ GE245.out))) : w.heap.size ≤ gb246)); replace HB := am (below_step (by repeat (with_reducible first | exact HB.out | apply bA | apply bN | apply bD | refine bS ?_ GE245.out)) hb); have NB245_246 := am ((by rw [hg]; exact Nat.ne_of_lt (blk_lt (g := gb245) (by (with_reducible repeat (first | apply kB | apply kC | apply kE)); exact BK245.out)) : gb245 ≠ gb246)); have NB246_245 := am ((by rw [hg]; exact Nat.ne_of_gt (blk_lt (g := gb245) (by (with_reducible repeat (first | apply kB | apply kC | apply kE)); exact BK245.out)) : gb246 ≠ gb245)); replace BK245 := am (blk_below (g := gb245) (by (with_reducible repeat (first | apply kB | apply kC | apply kE)); exact BK245.out) hb); clear hb hbox hg; have hnb20 := NB245_246.out; have hnc20 := NB246_245.out; have hcz21_0 : w19.cell? ⟨gb245, 0, none⟩ = some (.slice A0_0 l0_0.length c0_0) := (blk_cell BK245.out 0).trans rfl; have hcz21_1 : w19.cell? ⟨gb245, 1, none⟩ = some (.slice A0_1 l0_1.length c0_1) := (blk_cell BK245.out 1).trans rfl; have hcz21_2 : w19.cell? ⟨gb245, 2, none⟩ = some (.int .i64 a0_2) := (blk_cell BK245.out 2).trans rfl; have hfz21_0 := blk_frozen BK245.out 0; have hfz21_1 := blk_frozen BK245.out 1; have hfz21_2 := blk_frozen BK245.out 2; have hcz22_0 : w19.cell? ⟨gb246, 0, none⟩ = some (.slice A1_0 l1_0.length c1_0) := (blk_cell BK246.out 0).trans rfl; have hcz22_1 : w19.cell? ⟨gb246, 1, none⟩ = some (.slice A1_1 l1_1.length c1_1) := (blk_cell BK246.out 1).trans rfl; have hcz22_2 : w19.cell? ⟨gb246, 2, none⟩ = some (.int .i64 a1_2) := (blk_cell BK246.out 2).trans rfl; have hfz22_0 := blk_frozen BK246.out 0; have hfz22_1 := blk_frozen BK246.out 1; have hfz22_2 := blk_frozen BK246.out 2) | ((with_reducible refine gate_callee (f := 99) rfl ?_); refine goesL_ (some 25) rfl rfl Try.func99 (by kernel_rfl) rfl #[.slice A0_0 l0_0.length c0_0, .slice A1_0 l1_0.length c1_0] rfl (by (try simp only [mT, mC, mZ]); first | done | rfl) ?_; (with_reducible refine (spec_stListLess.calls k _ _ l0_0 _ _ l1_0 t247 _ ?side1 ?side2 ?side3 ?side4 A4.out).mono ?_); (case side1 => repeat (first | exact (Kd.C_below HR0_0.out HB.out) | (with_reducible first | apply cA | apply cN | apply cD))); (case side2 => exact HC0_0.out); (case side3 => repeat (first | exact (Kd.C_below HR1_0.out HB.out) | (with_reducible first | apply cA | apply cN | apply cD))); (case side4 => exact HC1_0.out); rintro e w' ⟨rfl, ⟨nd, rfl⟩⟩; refine ⟨_, rfl, ?_⟩))
   go_ret
   exact ⟨by first | rfl | (simp [*, errW_none, errW_some] <;> rfl), by repeat (with_reducible first | exact HB.out | apply bA | apply bN | apply bD | refine bS ?_ GE245.out | refine bS ?_ GE246.out)⟩
 ·rw [if_neg c3] at H
  have c3b0 : ((l0_0.length : Int) == (l1_0.length : Int)) = false := beq_eq_false_iff_ne.mpr c3
  have c3b1 : ((l0_0.length : Int) != (l1_0.length : Int)) = true := bne_iff_ne.mpr c3
  have c3b2 : (l0_0.length == l1_0.length) = false := by first | simpa using c3 | (simp at c3 ⊢; omega)
  obtain rfl := Option.some.inj H
  go_enter Try.func87, Try.ntmps87
  go_wp2_with (first | ((with_reducible refine gate_dst (N := 2) rfl ?_); refine box_event ?hg (N := 2) ?hd (cs := #[.slice A0_0 l0_0.length c0_0, .slice A0_1 l0_1.length c0_1, .int .i64 a0_2]) (t := 27) ?hr ?_; (case hd => rfl); (case hg => rfl); (case hr => first | (go_simp; done) | (go_simp; rfl)); intro gb245 hg w23 hbox hb; have BK245 := am (hbox); have GW245 := am ((by rw [hg]; exact (below_size (by repeat (with_reducible first | exact HB.out | apply bA | apply bN | apply bD))) : w.heap.size ≤ gb245)); have GE245 := am ((by rw [hg]; exact (below_size (by repeat (with_reducible first | exact HB.out | apply bA | apply bN | apply bD))) : w.heap.size ≤ gb245)); replace HB := am (below_step (by repeat (with_reducible first | exact HB.out | apply bA | apply bN | apply bD)) hb); clear hb hbox hg) | ((with_reducible refine gate_dst (N := 3) rfl ?_); refine box_event ?hg (N := 3) ?hd (cs := #[.slice A1_0 l1_0.length c1_0, .slice A1_1 l1_1.length c1_1, .int .i64 a1_2]) (t := 27) ?hr ?_; (case hd => rfl); (case hg => rfl); (case hr => first | (go_simp; done) | (go_simp; rfl)); intro gb246 hg w24 hbox hb; have BK246 := am (hbox); have GW246 := am ((by rw [hg]; exact (below_size (by repeat (with_reducible first | exact HB.out | apply bA | apply bN | apply bD | refine bS ?_ GE245.out))) : w.heap.size ≤ gb246)); have GE246 := am ((by rw [hg]; exact (below_size (by repeat (with_reducible first | exact HB.out | apply bA | apply bN | apply bD | refine bS ?_ GE245.out))) : w.heap.size ≤ gb246)); replace HB := am (below_step (by repeat (with_reducible first | exact HB.out | apply bA | apply bN | apply bD | refine bS ?_ GE245.out)) hb); have NB245_246 := am ((by rw [hg]; exact Nat.ne_of_lt (blk_lt (g := gb245) (by (with_reducible repeat (first | apply kB | apply kC | apply kE)); exact BK245.out)) : gb245 ≠ gb246)); have NB246_245 := am ((by rw [hg]; exact Nat.ne_of_gt (blk_lt (g := gb245) (by (with_reducible repeat (first | apply kB | apply kC | apply kE)); exact BK245.out)) : gb246 ≠ gb245)); replace BK245 := am (blk_below (g := gb245) (by (with_reducible repeat (first | apply kB | apply kC | apply kE)); exact BK245.out) hb); clear hb hbox hg; have hnb25 := NB245_246.out; have hnc25 := NB246_245.out; have hcz26_0 : w24.cell? ⟨gb245, 0, none⟩ = some (.slice A0_0 l0_0.length c0_0) := (blk_cell BK245.out 0).trans rfl; have hcz26_1 : w24.cell? ⟨gb245, 1, none⟩ = some (.slice A0_1 l0_1.length c0_1) := (blk_cell BK245.out 1).trans rfl; have hcz26_2 : w24.cell? ⟨gb245, 2, none⟩ = some (.int .i64 a0_2) := (blk_cell BK245.out 2).trans rfl; have hfz26_0 := blk_frozen BK245.out 0; have hfz26_1 := blk_frozen BK245.out 1; have hfz26_2 := blk_frozen BK245.out 2; have hcz27_0 : w24.cell? ⟨gb246, 0, none⟩ = some (.slice A1_0 l1_0.length c1_0) := (blk_cell BK246.out 0).trans rfl; have hcz27_1 : w24.cell? ⟨gb246, 1, none⟩ = some (.slice A1_1 l1_1.length c1_1) := (blk_cell BK246.out 1).trans rfl; have hcz27_2 : w24.cell? ⟨gb246, 2, none⟩ = some (.int .i64 a1_2) := (blk_cell BK246.out 2).trans rfl; have hfz27_0 := blk_frozen BK246.out 0; have hfz27_1 := blk_frozen BK246.out 1; have hfz27_2 := blk_frozen BK246.out 2))
  go_ret
  exact ⟨by first | rfl | (simp [*, errW_none, errW_some] <;> rfl), by repeat (with_reducible first | exact HB.out | apply bA | apply bN | apply bD | refine bS ?_ GE245.out | refine bS ?_ GE246.out)⟩
end Go.Proofs.Ytlbaldejaapbiaa.QFnExactStatesAfter
