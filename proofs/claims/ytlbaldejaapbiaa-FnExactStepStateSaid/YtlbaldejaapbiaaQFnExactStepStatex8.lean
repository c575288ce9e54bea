-- Written by wip/myprint.py (a program of mine round the kit's printer). Lean checks it.
import Derived.Test.YtlbaldejaapbiaaQFnExactStepStatex0
import Derived.Test.YtlbaldejaapbiaaQFnExactStepStatex6
import Derived.Test.YtlbaldejaapbiaaQFnExactStepStatex7
namespace Go.Proofs.Ytlbaldejaapbiaa.QFnExactStepState
open Go.RowKit Go.Proofs.YtlbaldejaapbiaaW.PrintWords Go.Proofs.YtlbaldejaapbiaaW.PrintLast Go.Proofs.YtlbaldejaapbiaaW.PrintMore
attribute [local go_sem] max2_int min2_int max_two min_two max_three min_three max_four min_four   -- for this text's walks alone
set_option linter.unusedVariables false
set_option linter.unusedSimpArgs false

set_option maxHeartbeats 8000000
set_option maxRecDepth 100000
/-! ### impl_crosses: function 45 -/
mutual
def impl_crosses.l0 : Nat → List Int → List Int → Int → Int → Option (Bool)
 | 0, _, _, _, _ => none
 | k + 1, x0, x8, x9, x10 => if x10 < x9 then (if 0 ≤ x10 then (if x10 < (x8.length : Int) then (if 0 ≤ (wrap64 (x10 + 1)) then (if (wrap64 (x10 + 1)) ≤ (x0.length : Int) then ((slices_Index_int_int.f k (x0.drop ((wrap64 (x10 + 1)) : Int).toNat) (rd x8 x10)).bind fun t309 => (if (wrap64 ((wrap64 (x10 + 1)) + t309)) ≤ x10 then (impl_crosses.l0 k x0 x8 x9 (wrap64 (x10 + 1))) else (if (wrap64 (x10 + 1)) ≤ (wrap64 ((wrap64 (x10 + 1)) + t309)) then (if (wrap64 ((wrap64 (x10 + 1)) + t309)) ≤ (x0.length : Int) then (impl_crosses.l1 k x0 x10 (wrap64 ((wrap64 (x10 + 1)) + t309)) x8 x9 x10 ((x0.take ((wrap64 ((wrap64 (x10 + 1)) + t309)) : Int).toNat).drop ((wrap64 (x10 + 1)) : Int).toNat) (((x0.take ((wrap64 ((wrap64 (x10 + 1)) + t309)) : Int).toNat).drop ((wrap64 (x10 + 1)) : Int).toNat).length : Int) 0) else (none)) else (none)))) else (none)) else (none)) else (none)) else (none)) else (some false)
def impl_crosses.l1 : Nat → List Int → Int → Int → List Int → Int → Int → List Int → Int → Int → Option (Bool)
 | 0, _, _, _, _, _, _, _, _, _ => none
 | k + 1, x0, x3, x5, x8, x9, x10, x31, x32, x33 => if x33 < x32 then (if 0 ≤ x33 then (if x33 < (x31.length : Int) then (if 0 ≤ x3 then (if x3 ≤ (x0.length : Int) then ((slices_Contains_int_int.f k (x0.take (x3 : Int).toNat) (rd x31 x33)).bind fun t313 => (if t313 = true then (some true) else (if 0 ≤ (wrap64 (x5 + 1)) then (if (wrap64 (x5 + 1)) ≤ (x0.length : Int) then ((slices_Contains_int_int.f k (x0.drop ((wrap64 (x5 + 1)) : Int).toNat) (rd x31 x33)).bind fun t315 => (if t315 = true then (some true) else (impl_crosses.l1 k x0 x3 x5 x8 x9 x10 x31 x32 (wrap64 (x33 + 1))))) else (none)) else (none)))) else (none)) else (none)) else (none)) else (none)) else (impl_crosses.l0 k x0 x8 x9 (wrap64 (x10 + 1)))
end
def impl_crosses.f (k : Nat) (l0 : List Int) : Option (Bool) := impl_crosses.l0 k l0 l0 (l0.length : Int) 0
theorem impl_crosses.mono_l : ∀ k, (∀ y0 y1 y2 y3, LeO (impl_crosses.l0 k y0 y1 y2 y3) (impl_crosses.l0 (k + 1) y0 y1 y2 y3)) ∧ (∀ y0 y1 y2 y3 y4 y5 y6 y7 y8, LeO (impl_crosses.l1 k y0 y1 y2 y3 y4 y5 y6 y7 y8) (impl_crosses.l1 (k + 1) y0 y1 y2 y3 y4 y5 y6 y7 y8))
 | 0 => ⟨fun _ _ _ _ r h => by simp [impl_crosses.l0] at h, fun _ _ _ _ _ _ _ _ _ r h => by simp [impl_crosses.l1] at h⟩
 | k + 1 => by
  obtain ⟨ih0, ih1⟩ := impl_crosses.mono_l k
  refine ⟨?_, ?_⟩
  ·intro y0 y1 y2 y3
   unfold impl_crosses.l0
   repeat' first
   | (with_reducible exact ih0 _ _ _ _)
   | (with_reducible exact ih1 _ _ _ _ _ _ _ _ _)
   | (with_reducible exact slices_Contains_int_int.mono _ _ _)
   | (with_reducible exact slices_Index_int_int.mono _ _ _)
   | (with_reducible exact LeO.refl _)
   | (with_reducible exact LeO.none _)
   | (with_reducible refine LeO.ite ?_ ?_)
   | (with_reducible refine LeO.bind ?_ (fun _ => ?_))
   | exact LeO.none _
   | refine LeO.ite ?_ ?_
   | refine LeO.bind ?_ (fun _ => ?_)
  ·intro y0 y1 y2 y3 y4 y5 y6 y7 y8
   unfold impl_crosses.l1
   repeat' first
   | (with_reducible exact ih0 _ _ _ _)
   | (with_reducible exact ih1 _ _ _ _ _ _ _ _ _)
   | (with_reducible exact slices_Contains_int_int.mono _ _ _)
   | (with_reducible exact slices_Index_int_int.mono _ _ _)
   | (with_reducible exact LeO.refl _)
   | (with_reducible exact LeO.none _)
   | (with_reducible refine LeO.ite ?_ ?_)
   | (with_reducible refine LeO.bind ?_ (fun _ => ?_))
   | exact LeO.none _
   | refine LeO.ite ?_ ?_
   | refine LeO.bind ?_ (fun _ => ?_)
theorem impl_crosses.mono : ∀ a0 k, LeO (impl_crosses.f k a0) (impl_crosses.f (k + 1) a0) := by
 intro a0 k
 obtain ⟨ih0, ih1⟩ := impl_crosses.mono_l k
 unfold impl_crosses.f
 repeat' first
   | (with_reducible exact ih0 _ _ _ _)
   | (with_reducible exact ih1 _ _ _ _ _ _ _ _ _)
   | (with_reducible exact slices_Contains_int_int.mono _ _ _)
   | (with_reducible exact slices_Index_int_int.mono _ _ _)
   | (with_reducible exact LeO.refl _)
   | (with_reducible exact LeO.none _)
   | (with_reducible refine LeO.ite ?_ ?_)
   | (with_reducible refine LeO.bind ?_ (fun _ => ?_))
   | exact LeO.none _
   | refine LeO.ite ?_ ?_
   | refine LeO.bind ?_ (fun _ => ?_)
theorem impl_crosses.calls (k : Nat) (A0 : Option Addr) (c0 : Nat) (l0 : List Int) (r : Bool) (w : World) (hr0 : Kd.C (Kd.int .i64) w A0 l0.length l0) (hc0 : l0.length ≤ c0) (h : impl_crosses.f k l0 = some r) :
  Calls Try.prog 45 #[.slice A0 l0.length c0] w fun e w' => e = .returned (.bool r) ∧ Drawn0 w w' := by
 have HR0 := Aside0.mk hr0
 have HC0 := Aside0.mk hc0
 clear hr0 hc0
 have H : (impl_crosses.l0 k l0 l0 (l0.length : Int) 0) = some r := h
 clear h
 have H' := Aside0.mk H
 clear H
 go_enter Try.func45, Try.ntmps45
 go_wp2
 go_loopg [10] k (fun kq v10 w' => ∃ (x10_1 : Int), v10 = .int .i64 x10_1 ∧ Aside0 (impl_crosses.l0 kq l0 l0 (l0.length : Int) x10_1 = some r) ∧ Aside0 (kq ≤ k) ∧ Drawn0 w w')
 case atStart => exact ⟨(0), (by first | rfl | (simp; done) | (simp [*]; done)), H', ⟨Nat.le_refl _⟩, by repeat (first | exact Drawn0.refl _ | apply Drawn0.step)⟩
 case round =>
  clear H'
  obtain ⟨x10_1, rfl, HA, HK1, ⟨m1, rfl⟩⟩ := hrel
  cases gk with
  | zero => exact absurd HA.out (by simp [impl_crosses.l0])
  | succ k1 =>
   have H := HA.out
   clear HA
   simp only [impl_crosses.l0] at H
   by_cases c2 : x10_1 < (l0.length : Int)
   ·rw [if_pos c2] at H
    have c2b0 : decide (x10_1 < (l0.length : Int)) = true := decide_eq_true c2
    clear c2
    by_cases c3 : 0 ≤ x10_1
    ·rw [if_pos c3] at H
     have c3b0 : decide (0 ≤ x10_1) = true := decide_eq_true c3
     clear c3
     by_cases c4 : x10_1 < (l0.length : Int)
     ·rw [if_pos c4] at H
      have c4b0 : decide (x10_1 < (l0.length : Int)) = true := decide_eq_true c4
      clear c4
      obtain ⟨ji5, hji5⟩ : ∃ j_ : Int, (wrap64 (x10_1 + 1)) = j_ := ⟨_, rfl⟩
      replace H : (if 0 ≤ (ji5) then (if (ji5) ≤ (l0.length : Int) then ((slices_Index_int_int.f k1 (l0.drop ((ji5) : Int).toNat) (rd l0 x10_1)).bind fun t309 => (if (wrap64 ((ji5) + t309)) ≤ x10_1 then (impl_crosses.l0 k1 l0 l0 (l0.length : Int) ji5) else (if (ji5) ≤ (wrap64 ((ji5) + t309)) then (if (wrap64 ((ji5) + t309)) ≤ (l0.length : Int) then (impl_crosses.l1 k1 l0 x10_1 (wrap64 ((ji5) + t309)) l0 (l0.length : Int) x10_1 ((l0.take ((wrap64 ((ji5) + t309)) : Int).toNat).drop ((ji5) : Int).toNat) (((l0.take ((wrap64 ((ji5) + t309)) : Int).toNat).drop ((ji5) : Int).toNat).length : Int) 0) else (none)) else (none)))) else (none)) else (none)) = some r := by first | (rw [hji5] at H; exact H) | (simp only [hji5] at H ⊢; exact H)
      have hji5w : (IntKind.i64.wrap (x10_1 + 1)) = ji5 := (i64_w _).trans hji5
      by_cases c6 : 0 ≤ (ji5)
      ·rw [if_pos c6] at H
       have c6b0 := eq_true c6
       have c6b1 : decide (0 ≤ (ji5)) = true := decide_eq_true c6
       clear c6
       by_cases c7 : (ji5) ≤ (l0.length : Int)
       ·rw [if_pos c7] at H
        have c7b0 := eq_true c7
        have c7b1 : decide ((ji5) ≤ (l0.length : Int)) = true := decide_eq_true c7
        clear c7
        replace H := Option.bind_eq_some_iff.mp H
        obtain ⟨t309, A80, H⟩ := H
        replace H : (if (wrap64 ((ji5) + t309)) ≤ x10_1 then (impl_crosses.l0 k1 l0 l0 (l0.length : Int) ji5) else (if (ji5) ≤ (wrap64 ((ji5) + t309)) then (if (wrap64 ((ji5) + t309)) ≤ (l0.length : Int) then (impl_crosses.l1 k1 l0 x10_1 (wrap64 ((ji5) + t309)) l0 (l0.length : Int) x10_1 ((l0.take ((wrap64 ((ji5) + t309)) : Int).toNat).drop ((ji5) : Int).toNat) (((l0.take ((wrap64 ((ji5) + t309)) : Int).toNat).drop ((ji5) : Int).toNat).length : Int) 0) else (none)) else (none))) = some r := H
        have A8 := Aside0.mk A80
        clear A80
        by_cases c9 : (wrap64 ((ji5) + t309)) ≤ x10_1
        ·rw [if_pos c9] at H
         have c9b0 : decide ((wrap64 ((ji5) + t309)) ≤ x10_1) = true := decide_eq_true c9
         clear c9
         have H' := Aside0.mk H
         clear H
         have p307 : 0 ≤ (x10_1 : Int) := of_decide_eq_true (by assumption)
         have q307 : x10_1 < (l0.length : Int) := of_decide_eq_true (by assumption)
         obtain ⟨ad307, e307, hx307_0⟩ := Kd.at_int HR0.out x10_1 p307 q307
         cases e307
         replace p307 := eq_true p307
         replace q307 := eq_true q307
         obtain ⟨i010, hi010, _, hsz10, _⟩ := info_parts info3
         obtain ⟨A10, hcut10, hA10, hC10⟩ := print_drop_of (P := Try.prog) (Value.int .i64) 0 22 3 .i64 Try.underlying22 hi010 hsz10 (some ad307) c0 l0 (ji5) (of_decide_eq_true (by assumption)) (of_decide_eq_true (by assumption)) HC0.out
         have HR308 := Aside0.mk (Kd.C_of_reads (h1 := fun _ => rfl) (hA10 _ (Kd.reads_of_C HR0.out)))
         have HC308 := Aside0.mk hC10
         clear hA10 hC10 hi010 hsz10
         go_wp2_with (first | ((with_reducible refine gate_callee (f := 69) rfl ?_); refine goesL_ (some 22) rfl rfl Try.func69 (by kernel_rfl) rfl #[.slice A10 (l0.drop ((ji5) : Int).toNat).length (c0 - (ji5).toNat), .int .i64 (rd l0 x10_1)] rfl (by (try simp only [List.map_toArray, List.map_cons, List.map_nil]); first | done | (rw [show (l0.drop ((ji5) : Int).toNat).length = (l0.length - (ji5).toNat) from List.length_drop] <;> rfl) | (simp only [hji5]; rfl) | rfl | (simp only [List.length_drop, List.length_take]; rfl)) ?_; (with_reducible refine (slices_Index_int_int.calls k1 _ _ (l0.drop ((ji5) : Int).toNat) (rd l0 x10_1) t309 _ ?side1 ?side2 A8.out).mono ?_); (case side1 => repeat (first | exact HR308.out | (with_reducible refine Kd.C_alloc ?_ _) | (with_reducible refine Kd.C_drewN ?_ _) | (with_reducible refine Kd.C_drew ?_))); (case side2 => exact HC308.out); rintro e w' ⟨rfl, ⟨nd, rfl⟩⟩; refine ⟨_, rfl, ?_⟩))
         go_roundg k1
         case measure => have := HK1.out; omega
         case rel => exact ⟨(ji5), (by first | rfl | (simp; done) | (simp only [← hji5] <;> (first | rfl | simp)) | (simp [*]; done)), H', ⟨by have := HK1.out; omega⟩, by repeat (first | exact Drawn0.refl _ | apply Drawn0.step)⟩
        ·rw [if_neg c9] at H
         have c9b0 : decide ((wrap64 ((ji5) + t309)) ≤ x10_1) = false := decide_eq_false c9
         clear c9
         have c11b0 := eq_true (of_decide_eq_true (by assumption) : 0 ≤ (ji5))
         by_cases c12 : (ji5) ≤ (wrap64 ((ji5) + t309))
         ·rw [if_pos c12] at H
          have c12b0 := eq_true c12
          have c12b1 : decide ((ji5) ≤ (wrap64 ((ji5) + t309))) = true := decide_eq_true c12
          by_cases c13 : (wrap64 ((ji5) + t309)) ≤ (l0.length : Int)
          ·rw [if_pos c13] at H
           have c13b0 := eq_true c13
           have c13b1 : decide ((wrap64 ((ji5) + t309)) ≤ (l0.length : Int)) = true := decide_eq_true c13
           have HCXJ := Aside0.mk c13
           have H' := Aside0.mk H
           clear H
           have p307 : 0 ≤ (x10_1 : Int) := of_decide_eq_true (by assumption)
           have q307 : x10_1 < (l0.length : Int) := of_decide_eq_true (by assumption)
           obtain ⟨ad307, e307, hx307_0⟩ := Kd.at_int HR0.out x10_1 p307 q307
           cases e307
           replace p307 := eq_true p307
           replace q307 := eq_true q307
           obtain ⟨i014, hi014, _, hsz14, _⟩ := info_parts info3
           obtain ⟨A14, hcut14, hA14, hC14⟩ := print_drop_of (P := Try.prog) (Value.int .i64) 0 22 3 .i64 Try.underlying22 hi014 hsz14 (some ad307) c0 l0 (ji5) (of_decide_eq_true (by assumption)) (of_decide_eq_true (by assumption)) HC0.out
           have HR308 := Aside0.mk (Kd.C_of_reads (h1 := fun _ => rfl) (hA14 _ (Kd.reads_of_C HR0.out)))
           have HC308 := Aside0.mk hC14
           clear hA14 hC14 hi014 hsz14
           go_wp2_with (first | ((with_reducible refine gate_callee (f := 69) rfl ?_); refine goesL_ (some 22) rfl rfl Try.func69 (by kernel_rfl) rfl #[.slice A14 (l0.drop ((ji5) : Int).toNat).length (c0 - (ji5).toNat), .int .i64 (rd l0 x10_1)] rfl (by (try simp only [List.map_toArray, List.map_cons, List.map_nil]); first | done | (rw [show (l0.drop ((ji5) : Int).toNat).length = (l0.length - (ji5).toNat) from List.length_drop] <;> rfl) | (simp only [hji5]; rfl) | rfl | (simp only [List.length_drop, List.length_take]; rfl)) ?_; (with_reducible refine (slices_Index_int_int.calls k1 _ _ (l0.drop ((ji5) : Int).toNat) (rd l0 x10_1) t309 _ ?side1 ?side2 A8.out).mono ?_); (case side1 => repeat (first | exact HR308.out | (with_reducible refine Kd.C_alloc ?_ _) | (with_reducible refine Kd.C_drewN ?_ _) | (with_reducible refine Kd.C_drew ?_))); (case side2 => exact HC308.out); rintro e w' ⟨rfl, ⟨nd, rfl⟩⟩; refine ⟨_, rfl, ?_⟩; obtain ⟨i015, hi015, _, hsz15, _⟩ := info_parts info3; obtain ⟨A15, hcut15, hA15, hC15⟩ := print_mid_of (P := Try.prog) (Value.int .i64) 0 22 3 .i64 .i64 Try.underlying22 hi015 hsz15 (some ad307) c0 l0 (ji5) (wrap64 ((ji5) + t309)) (of_decide_eq_true (by assumption)) (by first | omega | exact of_decide_eq_true (by assumption)) (of_decide_eq_true (by assumption)) HC0.out; have HR310 := Aside0.mk (Kd.C_of_reads (h1 := fun _ => rfl) (hA15 _ (Kd.reads_of_C HR0.out))); have HC310 := Aside0.mk hC15; clear hA15 hC15 hi015 hsz15))
           go_loopg [33] k1 (fun kq v33 w' => ∃ (x33_2 : Int), v33 = .int .i64 x33_2 ∧ Aside0 (impl_crosses.l1 kq l0 x10_1 (wrap64 ((ji5) + t309)) l0 (l0.length : Int) x10_1 ((l0.take ((wrap64 ((ji5) + t309)) : Int).toNat).drop ((ji5) : Int).toNat) (((l0.take ((wrap64 ((ji5) + t309)) : Int).toNat).drop ((ji5) : Int).toNat).length : Int) x33_2 = some r) ∧ Aside0 (kq ≤ k1) ∧ Drawn0 w w')
           case atStart => exact ⟨(0), (by first | rfl | (simp; done) | (simp [*]; done)), H', ⟨Nat.le_refl _⟩, by repeat (first | exact Drawn0.refl _ | apply Drawn0.step)⟩
           case round =>
            clear H'
            try clear p2
            try clear p3
            try clear q3
            try clear hx3
            try clear p6
            try clear hx307_0
            try clear p307
            try clear q307
            obtain ⟨x33_2, rfl, HA, HK2, ⟨m2, rfl⟩⟩ := hrel
            cases gk with
            | zero => exact absurd HA.out (by simp [impl_crosses.l1])
            | succ k2 =>
             have H := HA.out
             clear HA
             simp only [impl_crosses.l1] at H
             by_cases c16 : x33_2 < (((l0.take ((wrap64 ((ji5) + t309)) : Int).toNat).drop ((ji5) : Int).toNat).length : Int)
             ·rw [if_pos c16] at H
              have c16b0 : decide (x33_2 < (((l0.take ((wrap64 ((ji5) + t309)) : Int).toNat).drop ((ji5) : Int).toNat).length : Int)) = true := decide_eq_true c16
              have c16m0 : decide (x33_2 < ((((wrap64 ((ji5) + t309))).toNat - ((ji5)).toNat : Nat) : Int)) = true := decide_eq_true (by have h_ : (wrap64 ((ji5) + t309)) ≤ (l0.length : Int) := HCXJ.out; rw [List.length_drop, List.length_take] at c16; omega)
              clear c16
              by_cases c17 : 0 ≤ x33_2
              ·rw [if_pos c17] at H
               have c17b0 : decide (0 ≤ x33_2) = true := decide_eq_true c17
               clear c17
               by_cases c18 : x33_2 < (((l0.take ((wrap64 ((ji5) + t309)) : Int).toNat).drop ((ji5) : Int).toNat).length : Int)
               ·rw [if_pos c18] at H
                have c18b0 : decide (x33_2 < (((l0.take ((wrap64 ((ji5) + t309)) : Int).toNat).drop ((ji5) : Int).toNat).length : Int)) = true := decide_eq_true c18
                have c18m0 : decide (x33_2 < ((((wrap64 ((ji5) + t309))).toNat - ((ji5)).toNat : Nat) : Int)) = true := decide_eq_true (by have h_ : (wrap64 ((ji5) + t309)) ≤ (l0.length : Int) := HCXJ.out; rw [List.length_drop, List.length_take] at c18; omega)
                clear c18
                by_cases c19 : 0 ≤ x10_1
                ·rw [if_pos c19] at H
                 have c19b0 := eq_true c19
                 have c19b1 : decide (0 ≤ x10_1) = true := decide_eq_true c19
                 clear c19
                 by_cases c20 : x10_1 ≤ (l0.length : Int)
                 ·rw [if_pos c20] at H
                  have c20b0 := eq_true c20
                  have c20b1 : decide (x10_1 ≤ (l0.length : Int)) = true := decide_eq_true c20
                  clear c20
                  replace H := Option.bind_eq_some_iff.mp H
                  obtain ⟨t313, A210, H⟩ := H
                  replace H : (if t313 = true then (some true) else (if 0 ≤ (wrap64 ((wrap64 ((ji5) + t309)) + 1)) then (if (wrap64 ((wrap64 ((ji5) + t309)) + 1)) ≤ (l0.length : Int) then ((slices_Contains_int_int.f k2 (l0.drop ((wrap64 ((wrap64 ((ji5) + t309)) + 1)) : Int).toNat) (rd ((l0.take ((wrap64 ((ji5) + t309)) : Int).toNat).drop ((ji5) : Int).toNat) x33_2)).bind fun t315 => (if t315 = true then (some true) else (impl_crosses.l1 k2 l0 x10_1 (wrap64 ((ji5) + t309)) l0 (l0.length : Int) x10_1 ((l0.take ((wrap64 ((ji5) + t309)) : Int).toNat).drop ((ji5) : Int).toNat) (((l0.take ((wrap64 ((ji5) + t309)) : Int).toNat).drop ((ji5) : Int).toNat).length : Int) (wrap64 (x33_2 + 1))))) else (none)) else (none))) = some r := H
                  have A21 := Aside0.mk A210
                  clear A210
                  by_cases c22 : t313 = true
                  ·subst c22
                   have H1 : (some true) = some r := by rw [if_pos rfl] at H; exact H
                   clear H
                   have H := H1
                   clear H1
                   obtain rfl := Option.some.inj H
                   have p311 : 0 ≤ (x33_2 : Int) := of_decide_eq_true (by assumption)
                   have q311 : x33_2 < (((l0.take ((wrap64 ((ji5) + t309)) : Int).toNat).drop ((ji5) : Int).toNat).length : Int) := of_decide_eq_true (by assumption)
                   have q311m : (x33_2 < ((((wrap64 ((ji5) + t309))).toNat - ((ji5)).toNat : Nat) : Int)) = True := eq_true (of_decide_eq_true (by assumption))
                   obtain ⟨ad311, e311, hx311_0⟩ := Kd.at_int HR310.out x33_2 p311 q311
                   cases e311
                   replace p311 := eq_true p311
                   replace q311 := eq_true q311
                   obtain ⟨i023, hi023, _, hsz23, _⟩ := info_parts info3
                   obtain ⟨hcut23, hA23, hC23⟩ := print_take_of (P := Try.prog) (Value.int .i64) 0 22 3 .i64 Try.underlying22 hi023 hsz23 (some ad307) c0 l0 x10_1 (of_decide_eq_true (by assumption)) (of_decide_eq_true (by assumption)) HC0.out
                   have HR312 := Aside0.mk (Kd.C_of_reads (h1 := fun _ => rfl) (hA23 _ (Kd.reads_of_C HR0.out)))
                   have HC312 := Aside0.mk hC23
                   clear hA23 hC23 hi023 hsz23
                   go_wp2_with (first | ((with_reducible refine gate_callee (f := 70) rfl ?_); refine goesL_ (some 41) rfl rfl Try.func70 (by kernel_rfl) rfl #[.slice (some ad307) (l0.take (x10_1 : Int).toNat).length c0, .int .i64 (rd ((l0.take ((wrap64 ((ji5) + t309)) : Int).toNat).drop ((ji5) : Int).toNat) x33_2)] rfl (by (try simp only [List.map_toArray, List.map_cons, List.map_nil]); first | done | (rw [show (l0.take (x10_1 : Int).toNat).length = x10_1.toNat from (by rw [List.length_take]; have h_ : (x10_1 : Int) ≤ (l0.length : Int) := of_decide_eq_true (by assumption); omega)] <;> rfl) | (simp only [hji5]; rfl) | rfl | (simp only [List.length_drop, List.length_take]; rfl)) ?_; (with_reducible refine (slices_Contains_int_int.calls k2 _ _ (l0.take (x10_1 : Int).toNat) (rd ((l0.take ((wrap64 ((ji5) + t309)) : Int).toNat).drop ((ji5) : Int).toNat) x33_2) true _ ?side1 ?side2 A21.out).mono ?_); (case side1 => repeat (first | exact HR312.out | (with_reducible refine Kd.C_alloc ?_ _) | (with_reducible refine Kd.C_drewN ?_ _) | (with_reducible refine Kd.C_drew ?_))); (case side2 => exact HC312.out); rintro e w' ⟨rfl, ⟨nd, rfl⟩⟩; refine ⟨_, rfl, ?_⟩))
                   go_ret
                   exact ⟨by first | rfl | (simp; done) | (simp only [← hji5] <;> (first | rfl | simp)) | (simp [*]; done), by repeat (first | exact Drawn0.refl _ | apply Drawn0.step)⟩
                  ·replace c22 := Bool.eq_false_iff.mpr c22
                   subst c22
                   have H1 : (if 0 ≤ (wrap64 ((wrap64 ((ji5) + t309)) + 1)) then (if (wrap64 ((wrap64 ((ji5) + t309)) + 1)) ≤ (l0.length : Int) then ((slices_Contains_int_int.f k2 (l0.drop ((wrap64 ((wrap64 ((ji5) + t309)) + 1)) : Int).toNat) (rd ((l0.take ((wrap64 ((ji5) + t309)) : Int).toNat).drop ((ji5) : Int).toNat) x33_2)).bind fun t315 => (if t315 = true then (some true) else (impl_crosses.l1 k2 l0 x10_1 (wrap64 ((ji5) + t309)) l0 (l0.length : Int) x10_1 ((l0.take ((wrap64 ((ji5) + t309)) : Int).toNat).drop ((ji5) : Int).toNat) (((l0.take ((wrap64 ((ji5) + t309)) : Int).toNat).drop ((ji5) : Int).toNat).length : Int) (wrap64 (x33_2 + 1))))) else (none)) else (none)) = some r := by rw [if_neg (show ¬ (false = true) by decide)] at H; exact H
                   clear H
                   have H := H1
                   clear H1
                   obtain ⟨ji24, hji24⟩ : ∃ j_ : Int, (wrap64 ((wrap64 ((ji5) + t309)) + 1)) = j_ := ⟨_, rfl⟩
                   replace H : (if 0 ≤ (ji24) then (if (ji24) ≤ (l0.length : Int) then ((slices_Contains_int_int.f k2 (l0.drop ((ji24) : Int).toNat) (rd ((l0.take ((wrap64 ((ji5) + t309)) : Int).toNat).drop ((ji5) : Int).toNat) x33_2)).bind fun t315 => (if t315 = true then (some true) else (impl_crosses.l1 k2 l0 x10_1 (wrap64 ((ji5) + t309)) l0 (l0.length : Int) x10_1 ((l0.take ((wrap64 ((ji5) + t309)) : Int).toNat).drop ((ji5) : Int).toNat) (((l0.take ((wrap64 ((ji5) + t309)) : Int).toNat).drop ((ji5) : Int).toNat).length : Int) (wrap64 (x33_2 + 1))))) else (none)) else (none)) = some r := by first | (rw [hji24] at H; exact H) | (simp only [hji24] at H ⊢; exact H)
                   (try rw [hji24] at A21)
                   have hji24w : (IntKind.i64.wrap ((wrap64 ((ji5) + t309)) + 1)) = ji24 := (i64_w _).trans hji24
                   by_cases c25 : 0 ≤ (ji24)
                   ·rw [if_pos c25] at H
                    have c25b0 := eq_true c25
                    have c25b1 : decide (0 ≤ (ji24)) = true := decide_eq_true c25
                    clear c25
                    by_cases c26 : (ji24) ≤ (l0.length : Int)
                    ·rw [if_pos c26] at H
                     have c26b0 := eq_true c26
                     have c26b1 : decide ((ji24) ≤ (l0.length : Int)) = true := decide_eq_true c26
                     clear c26
                     replace H := Option.bind_eq_some_iff.mp H
                     obtain ⟨t315, A270, H⟩ := H
                     replace H : (if t315 = true then (some true) else (impl_crosses.l1 k2 l0 x10_1 (wrap64 ((ji5) + t309)) l0 (l0.length : Int) x10_1 ((l0.take ((wrap64 ((ji5) + t309)) : Int).toNat).drop ((ji5) : Int).toNat) (((l0.take ((wrap64 ((ji5) + t309)) : Int).toNat).drop ((ji5) : Int).toNat).length : Int) (wrap64 (x33_2 + 1)))) = some r := H
                     have A27 := Aside0.mk A270
                     clear A270
                     by_cases c28 : t315 = true
                     ·subst c28
                      have H1 : (some true) = some r := by rw [if_pos rfl] at H; exact H
                      clear H
                      have H := H1
                      clear H1
                      obtain rfl := Option.some.inj H
                      have p311 : 0 ≤ (x33_2 : Int) := of_decide_eq_true (by assumption)
                      have q311 : x33_2 < (((l0.take ((wrap64 ((ji5) + t309)) : Int).toNat).drop ((ji5) : Int).toNat).length : Int) := of_decide_eq_true (by assumption)
                      have q311m : (x33_2 < ((((wrap64 ((ji5) + t309))).toNat - ((ji5)).toNat : Nat) : Int)) = True := eq_true (of_decide_eq_true (by assumption))
                      obtain ⟨ad311, e311, hx311_0⟩ := Kd.at_int HR310.out x33_2 p311 q311
                      cases e311
                      replace p311 := eq_true p311
                      replace q311 := eq_true q311
                      obtain ⟨i029, hi029, _, hsz29, _⟩ := info_parts info3
                      obtain ⟨hcut29, hA29, hC29⟩ := print_take_of (P := Try.prog) (Value.int .i64) 0 22 3 .i64 Try.underlying22 hi029 hsz29 (some ad307) c0 l0 x10_1 (of_decide_eq_true (by assumption)) (of_decide_eq_true (by assumption)) HC0.out
                      have HR312 := Aside0.mk (Kd.C_of_reads (h1 := fun _ => rfl) (hA29 _ (Kd.reads_of_C HR0.out)))
                      have HC312 := Aside0.mk hC29
                      clear hA29 hC29 hi029 hsz29
                      go_wp2_with (first | ((with_reducible refine gate_callee (f := 70) rfl ?_); refine goesL_ (some 41) rfl rfl Try.func70 (by kernel_rfl) rfl #[.slice (some ad307) (l0.take (x10_1 : Int).toNat).length c0, .int .i64 (rd ((l0.take ((wrap64 ((ji5) + t309)) : Int).toNat).drop ((ji5) : Int).toNat) x33_2)] rfl (by (try simp only [List.map_toArray, List.map_cons, List.map_nil]); first | done | (rw [show (l0.take (x10_1 : Int).toNat).length = x10_1.toNat from (by rw [List.length_take]; have h_ : (x10_1 : Int) ≤ (l0.length : Int) := of_decide_eq_true (by assumption); omega)] <;> rfl) | (simp only [hji5]; rfl) | rfl | (simp only [List.length_drop, List.length_take]; rfl)) ?_; (with_reducible refine (slices_Contains_int_int.calls k2 _ _ (l0.take (x10_1 : Int).toNat) (rd ((l0.take ((wrap64 ((ji5) + t309)) : Int).toNat).drop ((ji5) : Int).toNat) x33_2) false _ ?side1 ?side2 A21.out).mono ?_); (case side1 => repeat (first | exact HR312.out | (with_reducible refine Kd.C_alloc ?_ _) | (with_reducible refine Kd.C_drewN ?_ _) | (with_reducible refine Kd.C_drew ?_))); (case side2 => exact HC312.out); rintro e w' ⟨rfl, ⟨nd, rfl⟩⟩; refine ⟨_, rfl, ?_⟩; obtain ⟨i030, hi030, _, hsz30, _⟩ := info_parts info3; obtain ⟨A30, hcut30, hA30, hC30⟩ := print_drop_of (P := Try.prog) (Value.int .i64) 0 22 3 .i64 Try.underlying22 hi030 hsz30 (some ad307) c0 l0 (ji24) (of_decide_eq_true (by assumption)) (of_decide_eq_true (by assumption)) HC0.out; have HR314 := Aside0.mk (Kd.C_of_reads (h1 := fun _ => rfl) (hA30 _ (Kd.reads_of_C HR0.out))); have HC314 := Aside0.mk hC30; clear hA30 hC30 hi030 hsz30) | (go_at_call 70; rw [show l0.length - (ji24).toNat = (l0.drop ((ji24) : Int).toNat).length from List.length_drop.symm]; (with_reducible refine (slices_Contains_int_int.calls k2 _ _ (l0.drop ((ji24) : Int).toNat) (rd ((l0.take ((wrap64 ((ji5) + t309)) : Int).toNat).drop ((ji5) : Int).toNat) x33_2) true _ ?side1 ?side2 A27.out).mono ?_); (case side1 => repeat (first | exact HR314.out | (with_reducible refine Kd.C_alloc ?_ _) | (with_reducible refine Kd.C_drewN ?_ _) | (with_reducible refine Kd.C_drew ?_))); (case side2 => exact HC314.out); rintro e w' ⟨rfl, ⟨nd, rfl⟩⟩))
                      go_ret
                      exact ⟨by first | rfl | (simp; done) | (simp only [← hji5, ← hji24] <;> (first | rfl | simp)) | (simp [*]; done), by repeat (first | exact Drawn0.refl _ | apply Drawn0.step)⟩
                     ·replace c28 := Bool.eq_false_iff.mpr c28
                      subst c28
                      have H1 : (impl_crosses.l1 k2 l0 x10_1 (wrap64 ((ji5) + t309)) l0 (l0.length : Int) x10_1 ((l0.take ((wrap64 ((ji5) + t309)) : Int).toNat).drop ((ji5) : Int).toNat) (((l0.take ((wrap64 ((ji5) + t309)) : Int).toNat).drop ((ji5) : Int).toNat).length : Int) (wrap64 (x33_2 + 1))) = some r := by rw [if_neg (show ¬ (false = true) by decide)] at H; exact H
                      clear H
                      have H := H1
                      clear H1
                      have H' := Aside0.mk H
                      clear H
                      have p311 : 0 ≤ (x33_2 : Int) := of_decide_eq_true (by assumption)
                      have q311 : x33_2 < (((l0.take ((wrap64 ((ji5) + t309)) : Int).toNat).drop ((ji5) : Int).toNat).length : Int) := of_decide_eq_true (by assumption)
                      have q311m : (x33_2 < ((((wrap64 ((ji5) + t309))).toNat - ((ji5)).toNat : Nat) : Int)) = True := eq_true (of_decide_eq_true (by assumption))
                      obtain ⟨ad311, e311, hx311_0⟩ := Kd.at_int HR310.out x33_2 p311 q311
                      cases e311
                      replace p311 := eq_true p311
                      replace q311 := eq_true q311
                      obtain ⟨i031, hi031, _, hsz31, _⟩ := info_parts info3
                      obtain ⟨hcut31, hA31, hC31⟩ := print_take_of (P := Try.prog) (Value.int .i64) 0 22 3 .i64 Try.underlying22 hi031 hsz31 (some ad307) c0 l0 x10_1 (of_decide_eq_true (by assumption)) (of_decide_eq_true (by assumption)) HC0.out
                      have HR312 := Aside0.mk (Kd.C_of_reads (h1 := fun _ => rfl) (hA31 _ (Kd.reads_of_C HR0.out)))
                      have HC312 := Aside0.mk hC31
                      clear hA31 hC31 hi031 hsz31
                      go_wp2_with (first | ((with_reducible refine gate_callee (f := 70) rfl ?_); refine goesL_ (some 41) rfl rfl Try.func70 (by kernel_rfl) rfl #[.slice (some ad307) (l0.take (x10_1 : Int).toNat).length c0, .int .i64 (rd ((l0.take ((wrap64 ((ji5) + t309)) : Int).toNat).drop ((ji5) : Int).toNat) x33_2)] rfl (by (try simp only [List.map_toArray, List.map_cons, List.map_nil]); first | done | (rw [show (l0.take (x10_1 : Int).toNat).length = x10_1.toNat from (by rw [List.length_take]; have h_ : (x10_1 : Int) ≤ (l0.length : Int) := of_decide_eq_true (by assumption); omega)] <;> rfl) | (simp only [hji5]; rfl) | rfl | (simp only [List.length_drop, List.length_take]; rfl)) ?_; (with_reducible refine (slices_Contains_int_int.calls k2 _ _ (l0.take (x10_1 : Int).toNat) (rd ((l0.take ((wrap64 ((ji5) + t309)) : Int).toNat).drop ((ji5) : Int).toNat) x33_2) false _ ?side1 ?side2 A21.out).mono ?_); (case side1 => repeat (first | exact HR312.out | (with_reducible refine Kd.C_alloc ?_ _) | (with_reducible refine Kd.C_drewN ?_ _) | (with_reducible refine Kd.C_drew ?_))); (case side2 => exact HC312.out); rintro e w' ⟨rfl, ⟨nd, rfl⟩⟩; refine ⟨_, rfl, ?_⟩; obtain ⟨i032, hi032, _, hsz32, _⟩ := info_parts info3; obtain ⟨A32, hcut32, hA32, hC32⟩ := print_drop_of (P := Try.prog) (Value.int .i64) 0 22 3 .i64 Try.underlying22 hi032 hsz32 (some ad307) c0 l0 (ji24) (of_decide_eq_true (by assumption)) (of_decide_eq_true (by assumption)) HC0.out; have HR314 := Aside0.mk (Kd.C_of_reads (h1 := fun _ => rfl) (hA32 _ (Kd.reads_of_C HR0.out))); have HC314 := Aside0.mk hC32; clear hA32 hC32 hi032 hsz32) | (go_at_call 70; rw [show l0.length - (ji24).toNat = (l0.drop ((ji24) : Int).toNat).length from List.length_drop.symm]; (with_reducible refine (slices_Contains_int_int.calls k2 _ _ (l0.drop ((ji24) : Int).toNat) (rd ((l0.take ((wrap64 ((ji5) + t309)) : Int).toNat).drop ((ji5) : Int).toNat) x33_2) false _ ?side1 ?side2 A27.out).mono ?_); (case side1 => repeat (first | exact HR314.out | (with_reducible refine Kd.C_alloc ?_ _) | (with_reducible refine Kd.C_drewN ?_ _) | (with_reducible refine Kd.C_drew ?_))); (case side2 => exact HC314.out); rintro e w' ⟨rfl, ⟨nd, rfl⟩⟩))
                      go_roundg k2
                      case measure => have := HK1.out; have := HK2.out; omega
                      case rel => exact ⟨(wrap64 (x33_2 + 1)), (by first | rfl | (simp; done) | (simp [*]; done)), H', ⟨by have := HK1.out; have := HK2.out; omega⟩, by repeat (first | exact Drawn0.refl _ | apply Drawn0.step)⟩
                    ·rw [if_neg c26] at H
                     exact absurd H (by simp)
                   ·rw [if_neg c25] at H
                    exact absurd H (by simp)
                 ·rw [if_neg c20] at H
                  exact absurd H (by simp)
                ·rw [if_neg c19] at H
                 exact absurd H (by simp)
               ·rw [if_neg c18] at H
                exact absurd H (by simp)
              ·rw [if_neg c17] at H
               exact absurd H (by simp)
             ·rw [if_neg c16] at H
              have c16b0 : decide (x33_2 < (((l0.take ((wrap64 ((ji5) + t309)) : Int).toNat).drop ((ji5) : Int).toNat).length : Int)) = false := decide_eq_false c16
              have c16m0 : decide (x33_2 < ((((wrap64 ((ji5) + t309))).toNat - ((ji5)).toNat : Nat) : Int)) = false := decide_eq_false (by have h_ : (wrap64 ((ji5) + t309)) ≤ (l0.length : Int) := HCXJ.out; rw [List.length_drop, List.length_take] at c16; omega)
              clear c16
              have H' := Aside0.mk H
              clear H
              go_wp2
              go_roundg k2
              case measure => have := HK1.out; have := HK2.out; omega
              case rel => exact ⟨(wrap64 (x10_1 + 1)), (by first | rfl | (simp; done) | (simp [*]; done)), H', ⟨by have := HK1.out; have := HK2.out; omega⟩, by repeat (first | exact Drawn0.refl _ | apply Drawn0.step)⟩
          ·rw [if_neg c13] at H
           exact absurd H (by simp)
         ·rw [if_neg c12] at H
          exact absurd H (by simp)
       ·rw [if_neg c7] at H
        exact absurd H (by simp)
      ·rw [if_neg c6] at H
       exact absurd H (by simp)
     ·rw [if_neg c4] at H
      exact absurd H (by simp)
    ·rw [if_neg c3] at H
     exact absurd H (by simp)
   ·rw [if_neg c2] at H
    have c2b0 : decide (x10_1 < (l0.length : Int)) = false := decide_eq_false c2
    clear c2
    obtain rfl := Option.some.inj H
    go_wp2
    go_ret
    exact ⟨by first | rfl | (simp; done) | (simp [*]; done), by repeat (first | exact Drawn0.refl _ | apply Drawn0.step)⟩

/-! ### impl_IsState: function 13 (by hand) -/
/-- How often each number stands there. -/
structure MapCnt (D : DataW Unit) (L : List Int) : Prop where
 tidy : Go.Maps.Tidy D
 has : ∀ x, Go.Maps.has D (.int .i64 x) = decide (x ∈ L)
 at_ : ∀ x, D.atKey (.int .i64 x) (.lit (.int .i64 0)) = .lit (.int .i64 (L.count x : Nat))
theorem MapCnt.start : MapCnt (.map [] : DataW Unit) [] := ⟨Go.Maps.tidy_empty, fun x => by simp [Go.Maps.has_eq], fun x => rfl⟩
theorem MapCnt.put {D : DataW Unit} {L : List Int} (h : MapCnt D L) (x : Int) {c : Int} (hc : c = (L.count x : Nat) + 1) : MapCnt (D.put (.int .i64 x) (.lit (.int .i64 c))) (L ++ [x]) := by
 subst hc
 refine ⟨h.tidy.put (show WideAt.IsKeyLit (Lit.int .i64 x) from trivial) _, fun y => ?_, fun y => ?_⟩
 ·by_cases e : y = x
  ·subst e
   rw [Go.Maps.has_put_same h.tidy.isMap (show WideAt.IsKeyLit (Lit.int .i64 y) from trivial)]; simp
  ·rw [Go.Maps.has_put_other (by intro e2; injection e2 with _ e2; exact e e2), h.has]
   simp [e]
 ·by_cases e : y = x
  ·subst e
   rw [Go.Maps.atKey_put_same h.tidy.isMap (show WideAt.IsKeyLit (Lit.int .i64 y) from trivial)]; simp
  ·rw [Go.Maps.atKey_put_other (by intro e2; injection e2 with _ e2; exact e e2), h.at_, List.count_append]
   simp [Ne.symm e]
def cntB (L : List Int) : Bool := L.all fun x => L.count x == 2
theorem count_small (L : List Int) (x : Int) (h : L.length ≤ 100000) : L.count x ≤ 100000 := Nat.le_trans List.count_le_length h
def impl_IsState.f (k : Nat) (l0 l1 : List Int) (a2 : Int) : Option Bool := if (l0.length : Int) > 6 then some false else (if (l1.length : Int) > 6 then some false else ((impl_isArches.f a2).bind fun t => (if t = true then (if wfB l0 = true ∧ wfB l1 = true then ((slices_Clone_int_int.f l1).bind fun c => ((slices_Reverse_int_int.f k c).bind fun v => (if wfB v = true ∧ v.length ≤ 1000 then (if cntB (l0 ++ v) = true then ((impl_renumbered.f l0 l1 a2).bind fun p => ((impl_State_same.f k p.1 p.2.1 p.2.2 l0 l1 a2).bind fun s => (if s = true then ((impl_crosses.f k (l0 ++ v)).bind fun c2 => (some (!c2))) else some false))) else some false) else none))) else none) else some false)))
theorem impl_IsState.mono : ∀ a0 a1 a2 k, LeO (impl_IsState.f k a0 a1 a2) (impl_IsState.f (k + 1) a0 a1 a2) := by
 intro a0 a1 a2 k
 unfold impl_IsState.f
 exact LeO.ite (LeO.refl _) (LeO.ite (LeO.refl _) (LeO.bind (LeO.refl _) (fun t => LeO.ite (LeO.ite (LeO.bind (LeO.refl _) (fun c => LeO.bind (slices_Reverse_int_int.mono c k) (fun v => LeO.ite (LeO.ite (LeO.bind (LeO.refl _) (fun p => LeO.bind (impl_State_same.mono _ _ _ _ _ _ k) (fun s => LeO.ite (LeO.bind (impl_crosses.mono _ k) (fun _ => LeO.refl _)) (LeO.refl _)))) (LeO.refl _)) (LeO.refl _)))) (LeO.refl _)) (LeO.refl _))))
open Go.Maps in
set_option maxHeartbeats 16000000 in
set_option maxRecDepth 100000 in
theorem impl_IsState.calls (k : Nat) (A0_0 : Option Addr) (c0_0 : Nat) (l0_0 : List Int) (A0_1 : Option Addr) (c0_1 : Nat) (l0_1 : List Int) (a0_2 : Int) (r : Bool) (w : World) (hr0_0 : Kd.C (Kd.int .i64) w A0_0 l0_0.length l0_0) (hc0_0 : l0_0.length ≤ c0_0) (hr0_1 : Kd.C (Kd.int .i64) w A0_1 l0_1.length l0_1) (hc0_1 : l0_1.length ≤ c0_1) (h : impl_IsState.f k l0_0 l0_1 a0_2 = some r) :
  Calls Try.prog 13 #[.agg #[.slice A0_0 l0_0.length c0_0, .slice A0_1 l0_1.length c0_1, .int .i64 a0_2]] w fun e w' => e = .returned (.bool r) ∧ Below w.heap.size w w' := by
 have hu := Try.underlying27
 have HR0_0 := Aside0.mk hr0_0
 have HC0_0 := Aside0.mk hc0_0
 have HR0_1 := Aside0.mk hr0_1
 have HC0_1 := Aside0.mk hc0_1
 clear hr0_0 hc0_0 hr0_1 hc0_1
 have HB := Aside0.mk (Below.refl w.heap.size w)
 unfold impl_IsState.f at h
 by_cases c1 : (l0_0.length : Int) > 6
 ·rw [if_pos c1] at h
  obtain rfl := Option.some.inj h
  have c1b : decide (6 < (l0_0.length : Int)) = true := decide_eq_true c1
  clear c1 h
  go_enter Try.func13, Try.ntmps13
  go_wp2_with (first | ((with_reducible refine gate_dst (N := 1) rfl ?_); refine box_event ?hg (N := 1) ?hd (cs := #[.slice A0_0 l0_0.length c0_0, .slice A0_1 l0_1.length c0_1, .int .i64 a0_2]) (t := 27) ?hr ?_; (case hd => rfl); (case hg => rfl); (case hr => first | (go_simp; done) | (go_simp; rfl)); intro gb hg w1 hbox hb; have GE := Aside0.mk (show w.heap.size ≤ gb by rw [hg]; exact Nat.le_refl _); have n0_ := Aside0.mk (below_step HB.out hb); clear HB; have HB := n0_; have BK := Aside0.mk hbox; clear hb hbox hg n0_; have hz0 : w1.cell? ⟨gb, 0, none⟩ = some (.slice A0_0 l0_0.length c0_0) := (blk_cell BK.out 0).trans rfl; have hz1 : w1.cell? ⟨gb, 1, none⟩ = some (.slice A0_1 l0_1.length c0_1) := (blk_cell BK.out 1).trans rfl; have hz2 : w1.cell? ⟨gb, 2, none⟩ = some (.int .i64 a0_2) := (blk_cell BK.out 2).trans rfl))
  go_ret
  exact ⟨rfl, HB.out⟩
 ·rw [if_neg c1] at h
  have c1b : decide (6 < (l0_0.length : Int)) = false := decide_eq_false c1
  have HL0 := Aside0.mk (show l0_0.length ≤ 6 by omega)
  clear c1
  by_cases c2 : (l0_1.length : Int) > 6
  ·rw [if_pos c2] at h
   obtain rfl := Option.some.inj h
   have c2b : decide (6 < (l0_1.length : Int)) = true := decide_eq_true c2
   clear c2 h
   go_enter Try.func13, Try.ntmps13
   go_wp2_with (first | ((with_reducible refine gate_dst (N := 1) rfl ?_); refine box_event ?hg (N := 1) ?hd (cs := #[.slice A0_0 l0_0.length c0_0, .slice A0_1 l0_1.length c0_1, .int .i64 a0_2]) (t := 27) ?hr ?_; (case hd => rfl); (case hg => rfl); (case hr => first | (go_simp; done) | (go_simp; rfl)); intro gb hg w1 hbox hb; have GE := Aside0.mk (show w.heap.size ≤ gb by rw [hg]; exact Nat.le_refl _); have n0_ := Aside0.mk (below_step HB.out hb); clear HB; have HB := n0_; have BK := Aside0.mk hbox; clear hb hbox hg n0_; have hz0 : w1.cell? ⟨gb, 0, none⟩ = some (.slice A0_0 l0_0.length c0_0) := (blk_cell BK.out 0).trans rfl; have hz1 : w1.cell? ⟨gb, 1, none⟩ = some (.slice A0_1 l0_1.length c0_1) := (blk_cell BK.out 1).trans rfl; have hz2 : w1.cell? ⟨gb, 2, none⟩ = some (.int .i64 a0_2) := (blk_cell BK.out 2).trans rfl))
   go_ret
   exact ⟨rfl, HB.out⟩
  ·rw [if_neg c2] at h
   have c2b : decide (6 < (l0_1.length : Int)) = false := decide_eq_false c2
   have HL1 := Aside0.mk (show l0_1.length ≤ 6 by omega)
   clear c2
   obtain ⟨t, h1, h⟩ := Option.bind_eq_some_iff.1 h
   have HAR := Aside0.mk (fun (W : World) => impl_isArches.calls a0_2 t W h1)
   clear h1
   cases t with
   | false =>
    rw [if_neg (by decide)] at h
    obtain rfl := Option.some.inj h
    clear h
    go_enter Try.func13, Try.ntmps13
    go_wp2_with (first | ((with_reducible refine gate_dst (N := 1) rfl ?_); refine box_event ?hg (N := 1) ?hd (cs := #[.slice A0_0 l0_0.length c0_0, .slice A0_1 l0_1.length c0_1, .int .i64 a0_2]) (t := 27) ?hr ?_; (case hd => rfl); (case hg => rfl); (case hr => first | (go_simp; done) | (go_simp; rfl)); intro gb hg w1 hbox hb; have GE := Aside0.mk (show w.heap.size ≤ gb by rw [hg]; exact Nat.le_refl _); have n0_ := Aside0.mk (below_step HB.out hb); clear HB; have HB := n0_; have BK := Aside0.mk hbox; clear hb hbox hg n0_; have hz0 : w1.cell? ⟨gb, 0, none⟩ = some (.slice A0_0 l0_0.length c0_0) := (blk_cell BK.out 0).trans rfl; have hz1 : w1.cell? ⟨gb, 1, none⟩ = some (.slice A0_1 l0_1.length c0_1) := (blk_cell BK.out 1).trans rfl; have hz2 : w1.cell? ⟨gb, 2, none⟩ = some (.int .i64 a0_2) := (blk_cell BK.out 2).trans rfl) | (go_at_call 39; refine (HAR.out _).mono ?_; rintro e w' ⟨rfl, ⟨nd, rfl⟩⟩; replace HB := Aside0.mk (pw_below_drewN HB.out nd); replace BK := Aside0.mk (blk_drewN BK.out nd)))
    go_ret
    exact ⟨rfl, HB.out⟩
   | true =>
    rw [if_pos rfl] at h
    by_cases cw : wfB l0_0 = true ∧ wfB l0_1 = true
    ·rw [if_pos cw] at h
     obtain ⟨cl, h2, h⟩ := Option.bind_eq_some_iff.1 h
     obtain ⟨rv, h3, h⟩ := Option.bind_eq_some_iff.1 h
     by_cases cv : wfB rv = true ∧ rv.length ≤ 1000
     ·rw [if_pos cv] at h
      have HW := Aside0.mk cw
      have HWV := Aside0.mk cv
      have ACL := Aside0.mk h2
      have ARV := Aside0.mk h3
      have H := Aside0.mk h
      clear h h2 h3 cw cv
      have hmm := @run_makeMap Try.prog
      go_enter Try.func13, Try.ntmps13
      go_upto_region 3 with (first | ((with_reducible refine gate_dst (N := 1) rfl ?_); refine box_event ?hg (N := 1) ?hd (cs := #[.slice A0_0 l0_0.length c0_0, .slice A0_1 l0_1.length c0_1, .int .i64 a0_2]) (t := 27) ?hr ?_; (case hd => rfl); (case hg => rfl); (case hr => first | (go_simp; done) | (go_simp; rfl)); intro gb hg w1 hbox hb; have GE := Aside0.mk (show w.heap.size ≤ gb by rw [hg]; exact Nat.le_refl _); have n0_ := Aside0.mk (below_step HB.out hb); clear HB; have HB := n0_; have BK := Aside0.mk hbox; clear hb hbox hg n0_; have hz0 : w1.cell? ⟨gb, 0, none⟩ = some (.slice A0_0 l0_0.length c0_0) := (blk_cell BK.out 0).trans rfl; have hz1 : w1.cell? ⟨gb, 1, none⟩ = some (.slice A0_1 l0_1.length c0_1) := (blk_cell BK.out 1).trans rfl; have hz2 : w1.cell? ⟨gb, 2, none⟩ = some (.int .i64 a0_2) := (blk_cell BK.out 2).trans rfl) | (go_at_call 39; refine (HAR.out _).mono ?_; rintro e w' ⟨rfl, ⟨nd, rfl⟩⟩; replace HB := Aside0.mk (pw_below_drewN HB.out nd); replace BK := Aside0.mk (blk_drewN BK.out nd)))
      (try simp only [Act.put, List.setIfInBounds_toArray, List.set_cons_zero, List.set_cons_succ])
      generalize w1.drewN nd = w2 at BK HB ⊢
      clear hz0 hz1 hz2
      have hz0 : w2.cell? ⟨gb, 0, none⟩ = some (.slice A0_0 l0_0.length c0_0) := (blk_cell BK.out 0).trans rfl
      have hz1 : w2.cell? ⟨gb, 1, none⟩ = some (.slice A0_1 l0_1.length c0_1) := (blk_cell BK.out 1).trans rfl
      have hz2 : w2.cell? ⟨gb, 2, none⟩ = some (.int .i64 a0_2) := (blk_cell BK.out 2).trans rfl
      go_upto_region 5 with (first | ((with_reducible refine gate_callee (f := 40) rfl ?_); refine goesL_ (some 28) rfl rfl Try.func40 (by kernel_rfl) rfl #[.slice A0_1 l0_1.length c0_1] rfl (by (try simp only [List.map_toArray, List.map_cons, List.map_nil]); first | done | rfl) ?_; refine (slices_Clone_int_int.calls _ _ l0_1 cl w2 (Kd.C_below HR0_1.out HB.out) HC0_1.out ACL.out).mono ?_; rintro e w3 ⟨v3, rfl, ho, hb⟩; refine ⟨_, rfl, ?_⟩; have HV := Aside0.mk (Kd.R_tight rfl ho); have HVB := Aside0.mk (Kd.R_base ho); have HBL := Aside0.mk (blk_lt BK.out); replace HB := Aside0.mk (below_step HB.out hb); replace BK := Aside0.mk (blk_below BK.out hb); clear hz0 hz1 hz2 ho hb; obtain ⟨Av, cv, ev⟩ := Kd.R_slice HV.out; subst ev) | ((with_reducible refine gate_callee (f := 41) rfl ?_); refine goesL_ (some 30) rfl rfl Try.func41 (by kernel_rfl) rfl #[.slice Av cl.length cv] rfl (by (try simp only [List.map_toArray, List.map_cons, List.map_nil]); first | done | rfl) ?_; refine (slices_Reverse_int_int.calls k (fun k_ => some k_ = (.slice Av cl.length cv : Value).ownBlock) (.slice Av cl.length cv) cl rv w w3 HB.out (Kd.R_lower HV.out (Nat.le_trans GE.out (Nat.le_of_lt HBL.out))) ARV.out).mono ?_; rintro e w4 ⟨rfl, ho, hb, hk⟩; refine ⟨_, rfl, ?_⟩; have n2_ := Aside0.mk ho; have n0_ := Aside0.mk hb; have n1_ := Aside0.mk (blk_kept BK.out hk (fun e_ => by have h1 := HVB.out gb e_.symm; have h2 := HBL.out; omega)); clear HB BK HV ho hb hk; have HB := n0_; have BK := n1_; have HV := n2_; clear n0_ n1_ n2_; have hz0 : w4.cell? ⟨gb, 0, none⟩ = some (.slice A0_0 l0_0.length c0_0) := (blk_cell BK.out 0).trans rfl; have hz1 : w4.cell? ⟨gb, 1, none⟩ = some (.slice A0_1 l0_1.length c0_1) := (blk_cell BK.out 1).trans rfl; have hz2 : w4.cell? ⟨gb, 2, none⟩ = some (.int .i64 a0_2) := (blk_cell BK.out 2).trans rfl; have HCL := Aside0.mk (show cl.length = rv.length from (Kd.R_reads' HV.out).1); rw [HCL.out] at HV HVB))
      (try simp only [Act.put, List.setIfInBounds_toArray, List.set_cons_zero, List.set_cons_succ])
      go_upto_region 6 with (first | ((with_reducible refine gate_callee (f := 42) rfl ?_); refine goesL_ (some 35) rfl rfl Try.func42 (by kernel_rfl) rfl #[.slice (some ⟨w4.heap.size, 0, none⟩) 2 2] rfl (by (try simp only [List.map_toArray, List.map_cons, List.map_nil]); first | done | rfl) ?_; have hq0 := (blk_cell (blk_new w4 (.cells #[.slice A0_0 l0_0.length c0_0, .slice Av cl.length cv] 22)) 0).trans (show _ = some (Value.slice A0_0 l0_0.length c0_0) from rfl); have hq1 := (blk_cell (blk_new w4 (.cells #[.slice A0_0 l0_0.length c0_0, .slice Av cl.length cv] 22)) 1).trans (show _ = some (Value.slice Av cl.length cv) from rfl); (rw [HCL.out] at hq0 hq1 ⊢); refine (slices_Concat_int_int.calls2 w4.heap.size A0_0 c0_0 l0_0 Av cv rv _ hq0 hq1 (Kd.C_alloc (Kd.C_below HR0_0.out HB.out) _) HC0_0.out (Kd.C_alloc (Kd.R_reads' HV.out).2.2 _) (Kd.R_reads' HV.out).2.1 (by have := HL0.out; omega) HWV.out.2).mono ?_; rintro e w5 ⟨v5, rfl, ho, hb⟩; refine ⟨_, rfl, ?_⟩; obtain ⟨L, hL⟩ : ∃ L, L = l0_0 ++ rv := ⟨_, rfl⟩; rw [← hL] at ho; have HEQ := Aside0.mk hL; clear hL; obtain ⟨Ar, cr, er⟩ := Kd.R_slice ho; subst er; have HRD := Aside0.mk (Kd.R_lower ho (Nat.le_trans HB.out.size (below_size (below_alloc (Below.refl _ _) _)))); have HRL := Aside0.mk (Kd.R_lt ho); replace HB := Aside0.mk (below_step (below_alloc HB.out _) hb); replace BK := Aside0.mk (blk_below (blk_alloc BK.out _) hb); clear hz0 hz1 hz2 hq0 hq1 HV ho hb))
      (try simp only [Act.put, List.setIfInBounds_toArray, List.set_cons_zero, List.set_cons_succ])
      have km := Aside0.mk (blk_new w5 (.map #[] 0))
      have n0_ := Aside0.mk (below_alloc HB.out (.map #[] 0))
      have n1_ := Aside0.mk (blk_alloc BK.out (.map #[] 0))
      have n2_ := Aside0.mk (Kd.R_alloc HRD.out (.map #[] 0))
      have HGM := Aside0.mk HB.out.size
      have HBL := Aside0.mk (blk_lt BK.out)
      clear HB BK HRD hmm
      have HB := n0_
      have BK := n1_
      have HRD := n2_
      have KM := km
      clear n0_ n1_ n2_ km
      have hls : (w5.alloc (.map #[] 0)).heap.size = w5.heap.size + 1 := by simp
      have HSZ := Aside0.mk hls
      clear hls
      generalize w5.alloc (.map #[] 0) = w6 at HB BK HRD KM HSZ ⊢
      generalize w5.heap.size = gm at HRL HGM KM HBL HSZ ⊢
      have HLL := Aside0.mk (show L.length ≤ 1006 by have := HL0.out; have := HWV.out.2; rw [HEQ.out, List.length_append]; omega)
      have HWL := Aside0.mk (show wfB L = true by rw [HEQ.out]; unfold wfB; rw [List.all_append]; have h1 := HW.out.1; have h2 := HWV.out.1; unfold wfB at h1 h2; rw [h1, h2]; rfl)
      have n0_ := H.out
      rw [← HEQ.out] at n0_
      have H := Aside0.mk n0_
      clear n0_ HEQ
      have law := int_keyed Try.underlying3
      go_wp2
      go_loopg [39] L.length (fun gg v39 wr => ∃ (i : Nat) (D' : DataW Unit), v39 = .int .i64 (i : Nat) ∧ i ≤ L.length ∧ L.length - i ≤ gg ∧ Aside0 (wr.ownsMap Try.prog 3 (plainElem Try.prog 3) gm i D') ∧ Aside0 (MapCnt D' (L.take i)) ∧ Aside0 (Below w.heap.size w wr) ∧ Aside0 (Kd.R (Kd.int .i64) 3 wr w.heap.size (fun _ => True) (.slice Ar L.length cr) L) ∧ Aside0 (wr.heap[gb]? = some (.cells #[.slice A0_0 l0_0.length c0_0, .slice A0_1 l0_1.length c0_1, .int .i64 a0_2] 27 (0, 0))))
      case atStart => exact ⟨0, _, rfl, Nat.zero_le _, Nat.le_refl _, ⟨ownsMap_new KM.out⟩, ⟨MapCnt.start⟩, HB, HRD, BK⟩
      case round =>
       clear HB BK HRD KM
       obtain ⟨i, D', rfl, hi, hgg, HO, HD, HB, HRD, BK⟩ := hrel
       by_cases hlt : i < L.length
       ·have hltz : (i : Int) < (L.length : Int) := by omega
        have p1 : (0 ≤ ((i : Nat) : Int)) = True := eq_true (by omega)
        have p2 : (((i : Nat) : Int) < (L.length : Int)) = True := eq_true hltz
        obtain ⟨ad, e1, hx⟩ := Kd.at_int (Kd.R_reads' HRD.out).2.2 ((i : Nat) : Int) (by omega) hltz
        subst e1
        rw [Int.toNat_natCast] at hx
        have HXW := Aside0.mk (show (Lit.int .i64 (rd L ((i : Nat) : Int))).wf = true from wfB_rd HWL.out (by omega) hltz)
        have HCN := Aside0.mk (show wrap64 (((L.take i).count (rd L ((i : Nat) : Int)) : Nat) + 1 : Int) = (((L.take i).count (rd L ((i : Nat) : Int)) : Nat) : Int) + 1 from by have h1 := List.count_le_length (a := rd L ((i : Nat) : Int)) (l := L.take i); rw [List.length_take] at h1; have := HLL.out; unfold wrap64; omega)
        go_wp2_with (first | (at_lookup; refine wpList_lookup_own_int _ rfl _ _ 58 rfl 3 3 .i64 law Try.underlying58 Try.underlying3 (impl_renumbered.zero _) gm _ _ rfl HO.out _ _ rfl (keyOf_int_mk Try.underlying3 HXW.out) ?_; intro c1_ hat1_ hwc1_; rw [HD.out.at_] at hat1_; (injection hat1_ with hat1_; injection hat1_ with _ hat1_; subst hat1_)) | (at_mapUpdate; refine wpList_mapUpdate_own _ rfl _ _ _ 58 rfl 3 3 law Try.underlying58 _ gm _ D' rfl HO.out (by have := HLL.out; unfold maxLen; omega) _ _ _ rfl rfl (keyOf_int_mk Try.underlying3 HXW.out) _ [] (plainElem_int Try.underlying3 (wrap64_wf _)) ?_; intro w7 hown1 hgrow1; have HO7 := Aside0.mk hown1; have HB7 := Aside0.mk (HB.out.grown hgrow1 HB.out.size (fun j hj => by cases hj; exact HGM.out)); have HRD7 := Aside0.mk (R_grownE HRD.out hgrow1 (fun k_ hk_ e_ => by injection e_ with e_; have h1 := HRL.out k_ hk_; omega)); have BK7 := Aside0.mk ((hgrow1.block gb (blk_lt BK.out) (fun e_ => by injection e_ with e_; have h1 := HBL.out; omega)).trans BK.out); clear hown1 hgrow1))
        go_roundg (L.length - (i + 1))
        case measure => omega
        case rel => exact ⟨i + 1, _, congrArg (Value.int .i64) (show wrap64 (((i : Nat) : Int) + 1) = ((i + 1 : Nat) : Int) by have := HLL.out; unfold wrap64; omega), by omega, Nat.le_refl _, HO7, ⟨by rw [take_snoc L i hlt]; exact HD.out.put _ HCN.out⟩, HB7, HRD7, BK7⟩
       ·obtain rfl : i = L.length := by omega
        have hltz : ¬ ((L.length : Nat) : Int) < (L.length : Int) := by omega
        rw [List.take_length] at HD
        have HRI := Aside0.mk (show w.heap.size ≤ wr.heap.size from HB.out.size)
        go_wp2_with (first | (at_range; refine wpList_range_own _ rfl _ 58 rfl 3 3 law Try.underlying58 _ gm _ D' rfl HO.out ?_; intro w8 hrg0 hg0 hs0; have HRG := Aside0.mk hrg0; have HB8 := Aside0.mk (HB.out.grown hg0 HB.out.size (fun j hj => by cases hj)); have HRD8 := Aside0.mk (R_grownE HRD.out hg0 (fun k_ _ e_ => by cases e_)); have BK8 := Aside0.mk ((hg0.block gb (blk_lt BK.out) (fun e_ => by cases e_)).trans BK.out); have HBLR := Aside0.mk (blk_lt BK.out); have HRLR := Aside0.mk (Kd.R_lt HRD.out); clear hrg0 hg0 hs0))
        try go_frame
        generalize wr.heap.size = gi at HRG HRI HBLR HRLR ⊢
        clear HB HRD BK HO
        go_loopg [9] (Go.Maps.size D') (fun gg _ wr => ∃ (left : Lit → Bool) (cnt : Nat), cnt ≤ gg ∧ Aside0 (wr.ranges Try.prog 3 (plainElem Try.prog 3) gm gi L.length D' left cnt) ∧ Aside0 (∀ x, x ∈ L → left (.int .i64 x) = false → L.count x = 2) ∧ Aside0 (∀ x, left (.int .i64 x) = true → x ∈ L) ∧ Aside0 (Below w.heap.size w wr) ∧ Aside0 (Kd.R (Kd.int .i64) 3 wr w.heap.size (fun _ => True) (.slice Ar L.length cr) L) ∧ Aside0 (wr.heap[gb]? = some (.cells #[.slice A0_0 l0_0.length c0_0, .slice A0_1 l0_1.length c0_1, .int .i64 a0_2] 27 (0, 0))))
        case atStart => exact ⟨_, _, Nat.le_refl _, HRG, ⟨fun x hx hl => by rw [HD.out.has, decide_eq_true hx] at hl; cases hl⟩, ⟨fun x hl => by rw [HD.out.has] at hl; exact of_decide_eq_true hl⟩, HB8, HRD8, BK8⟩
        case round =>
         clear HRG HB8 HRD8 BK8
         obtain ⟨left, cnt, hgg2, HRG, HDN, HLF, HB, HRD, BK⟩ := hrel
         go_wp2_with (first | (at_next; refine wpList_next_ranges_ii _ rfl _ rfl 3 3 .i64 .i64 law Try.underlying3 Try.underlying3 gm gi L.length _ _ _ rfl HRG.out ?_ ?_))
         ·intro _ hl0
          have hall : cntB L = true := List.all_eq_true.2 fun x hx => beq_iff_eq.2 (HDN.out x hx (hl0 _))
          have h := H.out
          clear H hl0 HRG HDN HLF
          rw [if_pos hall] at h
          obtain ⟨⟨q1, q2, q3⟩, hq, h⟩ := Option.bind_eq_some_iff.1 h
          obtain ⟨sm, hs, h⟩ := Option.bind_eq_some_iff.1 h
          simp only at hs
          have AQ := Aside0.mk hq
          have AS := Aside0.mk hs
          have H := Aside0.mk h
          clear hq hs h hall
          go_upto_region 16 with (fail)
          (try simp only [Act.put, List.setIfInBounds_toArray, List.set_cons_zero, List.set_cons_succ])
          replace BK := Aside0.mk (blk_drew BK.out)
          replace HB := Aside0.mk (below_drew1 HB.out)
          replace HRD := Aside0.mk (Kd.R_drew HRD.out)
          refine start_ (n := 10) (S := fun w' => w'.cell? ⟨gb, 0, none⟩ = some (.slice A0_0 l0_0.length c0_0) ∧ w'.cell? ⟨gb, 1, none⟩ = some (.slice A0_1 l0_1.length c0_1) ∧ w'.cell? ⟨gb, 2, none⟩ = some (.int .i64 a0_2)) (ds := []) #[false, false, false, false, false, false, false, false, false, false] (by kernel_rfl) rfl rfl ⟨(blk_cell BK.out 0).trans rfl, (blk_cell BK.out 1).trans rfl, (blk_cell BK.out 2).trans rfl⟩ (fun hHeld => ?_)
          generalize wr.drew = wd at BK HB HRD hHeld ⊢
          refine take_ (i := 0) (N := some 56) (v := ?_) (a' := ?_) #[true, false, false, false, false, false, false, false, false, false] rfl rfl (by kernel_rfl) (fun _ _ _ h => h) (Or.inl ⟨by rfl, ?_⟩) hHeld ?_ ?_
          rotate_left
          ·rintro w' ⟨s0, s1, s2⟩
           go_simp
           with_reducible rfl
          rotate_left
          ·simp only [Act.put, List.setIfInBounds_toArray, List.set_cons_zero, List.set_cons_succ, i64_w, i32_w]
           rfl
          refine take_ (i := 2) (N := some 58) (v := ?_) (a' := ?_) #[true, false, true, false, false, false, false, false, false, false] rfl rfl (by kernel_rfl) (fun _ _ _ h => h) (Or.inl ⟨by rfl, ?_⟩) hHeld ?_ ?_
          rotate_left
          ·rintro w' ⟨s0, s1, s2⟩
           go_simp
           with_reducible rfl
          rotate_left
          ·simp only [Act.put, List.setIfInBounds_toArray, List.set_cons_zero, List.set_cons_succ, i64_w, i32_w]
           rfl
          refine one_ (i := 1) (N := some 57) #[true, true, true, false, false, false, false, false, false, false] rfl rfl (by kernel_rfl) (by decide) (fun K hK => ?_)
          refine goes_ Try.func43 (by kernel_rfl) rfl #[.agg #[.slice A0_0 l0_0.length c0_0, .slice A0_1 l0_1.length c0_1, .int .i64 a0_2]] (by rfl) rfl rfl (by (try simp only [List.map_toArray, List.map_cons, List.map_nil]); first | done | rfl) ?_
          refine (impl_renumbered.calls A0_0 c0_0 l0_0 A0_1 c0_1 l0_1 a0_2 q1 q2 q3 wd (Kd.C_below HR0_0.out HB.out) HC0_0.out (Kd.C_below HR0_1.out HB.out) HC0_1.out AQ.out).mono ?_
          rintro e w9 ⟨v1, v2, rfl, ho0, ho1, hb⟩
          refine ⟨_, rfl, ?_⟩
          have HV1 := Aside0.mk ho0
          have HV2 := Aside0.mk ho1
          replace BK := Aside0.mk (blk_below BK.out hb)
          replace HB := Aside0.mk (below_step HB.out hb)
          replace HRD := Aside0.mk (Kd.R_below HRD.out hb)
          clear ho0 ho1 hb
          obtain ⟨E0, d0, e0⟩ := Kd.R_slice HV1.out
          subst e0
          obtain ⟨E1, d1, e1⟩ := Kd.R_slice HV2.out
          subst e1
          refine hK.out _ _ ⟨(blk_cell BK.out 0).trans rfl, (blk_cell BK.out 1).trans rfl, (blk_cell BK.out 2).trans rfl⟩ (fun hHeld => ?_)
          clear hK K
          refine norm_ (a' := ?_) ?_ ?_
          rotate_left
          ·show Act.put _ (some 57) _ = _
           simp only [Act.put, List.setIfInBounds_toArray, List.set_cons_zero, List.set_cons_succ, i64_w, i32_w]
           rfl
          refine one_ (i := 3) (N := some 59) #[true, true, true, true, false, false, false, false, false, false] rfl rfl (by kernel_rfl) (by decide) (fun K hK => ?_)
          refine goes_ Try.func44 (by kernel_rfl) rfl #[.agg #[.slice E0 q1.length d0, .slice E1 q2.length d1, .int .i64 q3], .agg #[.slice A0_0 l0_0.length c0_0, .slice A0_1 l0_1.length c0_1, .int .i64 a0_2]] (by rfl) rfl rfl (by (try simp only [List.map_toArray, List.map_cons, List.map_nil]); first | done | rfl) ?_
          refine (impl_State_same.calls k E0 d0 q1 E1 d1 q2 q3 A0_0 c0_0 l0_0 A0_1 c0_1 l0_1 a0_2 sm w9 (Kd.R_reads' HV1.out).2.2 (Kd.R_reads' HV1.out).2.1 (Kd.R_reads' HV2.out).2.2 (Kd.R_reads' HV2.out).2.1 (Kd.C_below HR0_0.out HB.out) HC0_0.out (Kd.C_below HR0_1.out HB.out) HC0_1.out AS.out).mono ?_
          rintro e w10 ⟨rfl, hb⟩
          refine ⟨_, rfl, ?_⟩
          replace BK := Aside0.mk (blk_below BK.out hb)
          replace HB := Aside0.mk (below_step HB.out hb)
          replace HRD := Aside0.mk (Kd.R_below HRD.out hb)
          clear HV1 HV2 hb
          refine hK.out _ _ ⟨(blk_cell BK.out 0).trans rfl, (blk_cell BK.out 1).trans rfl, (blk_cell BK.out 2).trans rfl⟩ (fun hHeld => ?_)
          clear hK K
          refine norm_ (a' := ?_) ?_ ?_
          rotate_left
          ·show Act.put _ (some 59) _ = _
           simp only [Act.put, List.setIfInBounds_toArray, List.set_cons_zero, List.set_cons_succ, i64_w, i32_w]
           rfl
          refine pure_ (i := 4) (N := some 60) (v := ?_) (a' := ?_) #[true, true, true, true, true, false, false, false, false, false] rfl rfl (by kernel_rfl) (fun _ _ _ h => h) (Or.inl ⟨by rfl, ?_⟩) ?_ ?_
          rotate_left
          ·intro w'
           go_simp
           with_reducible rfl
          rotate_left
          ·simp only [Act.put, List.setIfInBounds_toArray, List.set_cons_zero, List.set_cons_succ, i64_w, i32_w]
           rfl
          cases sm with
          | false =>
           have h := H.out
           rw [if_neg (by decide)] at h
           obtain rfl := Option.some.inj h
           clear h H
           refine pure_ (i := 5) (N := some 61) (v := undef) (a' := ?_) #[true, true, true, true, true, true, false, false, false, false] rfl rfl (by kernel_rfl) (fun _ _ _ h => h) (Or.inr ⟨by rfl, rfl⟩) ?_ ?_
           rotate_left
           ·simp only [Act.put, List.setIfInBounds_toArray, List.set_cons_zero, List.set_cons_succ, i64_w, i32_w]
            rfl
           refine pure_ (i := 6) (N := some 62) (v := undef) (a' := ?_) #[true, true, true, true, true, true, true, false, false, false] rfl rfl (by kernel_rfl) (fun _ _ _ h => h) (Or.inr ⟨by rfl, rfl⟩) ?_ ?_
           rotate_left
           ·simp only [Act.put, List.setIfInBounds_toArray, List.set_cons_zero, List.set_cons_succ, i64_w, i32_w]
            rfl
           refine pure_ (i := 7) (N := some 63) (v := undef) (a' := ?_) #[true, true, true, true, true, true, true, true, false, false] rfl rfl (by kernel_rfl) (fun _ _ _ h => h) (Or.inr ⟨by rfl, rfl⟩) ?_ ?_
           rotate_left
           ·simp only [Act.put, List.setIfInBounds_toArray, List.set_cons_zero, List.set_cons_succ, i64_w, i32_w]
            rfl
           refine pure_ (i := 8) (N := some 64) (v := ?_) (a' := ?_) #[true, true, true, true, true, true, true, true, true, false] rfl rfl (by kernel_rfl) (fun _ _ _ h => h) (Or.inl ⟨by rfl, ?_⟩) ?_ ?_
           rotate_left
           ·intro w'
            go_simp
            with_reducible rfl
           rotate_left
           ·simp only [Act.put, List.setIfInBounds_toArray, List.set_cons_zero, List.set_cons_succ, i64_w, i32_w]
            rfl
           refine pure_ (i := 9) (N := some 2) (v := ?_) (a' := ?_) #[true, true, true, true, true, true, true, true, true, true] rfl rfl (by kernel_rfl) (fun _ _ _ h => h) (Or.inl ⟨by rfl, ?_⟩) ?_ ?_
           rotate_left
           ·intro w'
            go_simp
            with_reducible rfl
           rotate_left
           ·simp only [Act.put, List.setIfInBounds_toArray, List.set_cons_zero, List.set_cons_succ, i64_w, i32_w]
            rfl
           refine done_ (by kernel_rfl) ?_
           go_wp2
           go_ret
           exact ⟨rfl, HB.out⟩
          | true =>
           have h := H.out
           rw [if_pos rfl] at h
           obtain ⟨cr2, hcr, h⟩ := Option.bind_eq_some_iff.1 h
           obtain rfl := Option.some.inj h
           have ACR := Aside0.mk hcr
           clear h H hcr
           refine pure_ (i := 5) (N := some 61) (v := ?_) (a' := ?_) #[true, true, true, true, true, true, false, false, false, false] rfl rfl (by kernel_rfl) (fun _ _ _ h => h) (Or.inl ⟨by rfl, ?_⟩) ?_ ?_
           rotate_left
           ·intro w'
            go_simp
            with_reducible rfl
           rotate_left
           ·simp only [Act.put, List.setIfInBounds_toArray, List.set_cons_zero, List.set_cons_succ, i64_w, i32_w]
            rfl
           refine one_ (i := 6) (N := some 62) #[true, true, true, true, true, true, true, false, false, false] rfl rfl (by kernel_rfl) (by decide) (fun K hK => ?_)
           refine goes_ Try.func45 (by kernel_rfl) rfl #[.slice Ar L.length cr] (by rfl) rfl rfl (by (try simp only [List.map_toArray, List.map_cons, List.map_nil]); first | done | rfl) ?_
           refine (impl_crosses.calls k Ar cr L cr2 w10 (Kd.R_reads' HRD.out).2.2 (Kd.R_reads' HRD.out).2.1 ACR.out).mono ?_
           rintro e w' ⟨rfl, ⟨nd3, rfl⟩⟩
           refine ⟨_, rfl, ?_⟩
           replace BK := Aside0.mk (blk_drewN BK.out nd3)
           replace HB := Aside0.mk (pw_below_drewN HB.out nd3)
           clear HRD
           refine hK.out _ _ ⟨(blk_cell BK.out 0).trans rfl, (blk_cell BK.out 1).trans rfl, (blk_cell BK.out 2).trans rfl⟩ (fun hHeld => ?_)
           clear hK K
           refine norm_ (a' := ?_) ?_ ?_
           rotate_left
           ·show Act.put _ (some 62) _ = _
            simp only [Act.put, List.setIfInBounds_toArray, List.set_cons_zero, List.set_cons_succ, i64_w, i32_w]
            rfl
           refine pure_ (i := 7) (N := some 63) (v := ?_) (a' := ?_) #[true, true, true, true, true, true, true, true, false, false] rfl rfl (by kernel_rfl) (fun _ _ _ h => h) (Or.inl ⟨by rfl, ?_⟩) ?_ ?_
           rotate_left
           ·intro w'
            go_simp
            with_reducible rfl
           rotate_left
           ·simp only [Act.put, List.setIfInBounds_toArray, List.set_cons_zero, List.set_cons_succ, i64_w, i32_w]
            rfl
           refine pure_ (i := 8) (N := some 64) (v := ?_) (a' := ?_) #[true, true, true, true, true, true, true, true, true, false] rfl rfl (by kernel_rfl) (fun _ _ _ h => h) (Or.inl ⟨by rfl, ?_⟩) ?_ ?_
           rotate_left
           ·intro w'
            go_simp
            with_reducible rfl
           rotate_left
           ·simp only [Act.put, List.setIfInBounds_toArray, List.set_cons_zero, List.set_cons_succ, i64_w, i32_w]
            rfl
           refine pure_ (i := 9) (N := some 2) (v := ?_) (a' := ?_) #[true, true, true, true, true, true, true, true, true, true] rfl rfl (by kernel_rfl) (fun _ _ _ h => h) (Or.inl ⟨by rfl, ?_⟩) ?_ ?_
           rotate_left
           ·intro w'
            go_simp
            with_reducible rfl
           rotate_left
           ·simp only [Act.put, List.setIfInBounds_toArray, List.set_cons_zero, List.set_cons_succ, i64_w, i32_w]
            rfl
           refine done_ (by kernel_rfl) ?_
           go_wp2
           go_ret
           exact ⟨rfl, HB.out⟩
         ·intro x c w9 cnt1 hwx hwc hlx hat hrg1 hlt1 hg1 hs1 hen
          have hxL := HLF.out x hlx
          have hcc : c = ((L.count x : Nat) : Int) := by have h1 := hat (.lit (.int .i64 0)); rw [HD.out.at_] at h1; injection h1 with h1; injection h1 with _ h1; exact h1.symm
          have HB9 := Aside0.mk (HB.out.grown hg1 HB.out.size (fun j hj => by cases hj; exact HRI.out))
          have HRD9 := Aside0.mk (R_grownE HRD.out hg1 (fun k_ hk_ e_ => by injection e_ with e_; have h1 := HRLR.out k_ hk_; omega))
          have BK9 := Aside0.mk ((hg1.block gb (blk_lt BK.out) (fun e_ => by injection e_ with e_; have h1 := HBLR.out; omega)).trans BK.out)
          by_cases h2 : c = 2
          ·have hb1 : (c == 2) = true := beq_iff_eq.2 h2
           have hb2 : (c != 2) = false := by rw [bne, hb1]; rfl
           have HC2 := Aside0.mk (show L.count x = 2 by omega)
           have HRG1 := Aside0.mk hrg1
           have HCL1 := Aside0.mk (Nat.lt_of_lt_of_le hlt1 hgg2)
           clear hat hcc h2 hrg1 hg1 hs1 hlt1 hwx hwc hlx
           go_wp2
           go_roundg cnt1
           case measure => exact HCL1.out
           case rel => exact ⟨_, cnt1, Nat.le_refl _, HRG1, ⟨fun y hy hl => if e_ : y = x then e_ ▸ HC2.out else HDN.out y hy (by rw [Go.Maps.sameKey_ne (show Lit.int .i64 y ≠ .int .i64 x from fun e2 => e_ (by injection e2))] at hl; simpa using hl)⟩, ⟨fun y hl => HLF.out y (by simp only [Bool.and_eq_true] at hl; exact hl.1)⟩, HB9, HRD9, BK9⟩
          ·have hb1 : (c == 2) = false := beq_eq_false_iff_ne.2 h2
           have hb2 : (c != 2) = true := by rw [bne, hb1]; rfl
           have hf : cntB L = false := Bool.eq_false_iff.2 (fun hh => h2 (by have h3 := beq_iff_eq.1 (List.all_eq_true.1 hh x hxL); omega))
           have h := H.out
           rw [if_neg (by rw [hf]; decide)] at h
           obtain rfl := Option.some.inj h
           clear h H hf hat hcc h2 hrg1 hg1 hs1 hlt1 hwx hwc hlx
           go_wp2
           go_ret
           exact ⟨rfl, HB9.out⟩
     ·rw [if_neg cv] at h
      cases h
    ·rw [if_neg cw] at h
     cases h

end Go.Proofs.Ytlbaldejaapbiaa.QFnExactStepState
