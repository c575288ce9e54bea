-- Written by wip/myprint.py (a program of mine round the kit's printer). Lean checks it.
import Derived.Test.YtpbadjdeghmenaaQFnSystemsListedx0
import Derived.Test.YtpbadjdeghmenaaQFnSystemsListedx1
import Derived.Test.YtpbadjdeghmenaaQFnSystemsListedx3
namespace Go.Proofs.Ytpbadjdeghmenaa.QFnSystemsListed
open Go.RowKit Go.Proofs.YtpbadjdeghmenaaW.PrintWords Go.Proofs.YtpbadjdeghmenaaW.PrintLast Go.Proofs.YtpbadjdeghmenaaW.PrintMore
attribute [local go_sem] max2_int min2_int max_two min_two max_three min_three max_four min_four   -- for this text's walks alone
set_option linter.unusedVariables false
set_option linter.unusedSimpArgs false

set_option maxHeartbeats 8000000
set_option maxRecDepth 100000
/-! ### spec_ahAll: function 35 -/
mutual
def spec_ahAll.l0 : Nat → Int → Int → List (List Int) → Int → Option ((List (List Int)))
 | 0, _, _, _, _ => none
 | k + 1, x0, x1, x5, x6 => if x6 < x0 then ((spec_ahAll.f k x6 (wrap64 (x1 + 1))).bind fun t235 => (spec_ahAll.l1 k x0 x1 x5 x6 t235 (t235.length : Int) 0)) else (some x5)
def spec_ahAll.l1 : Nat → Int → Int → List (List Int) → Int → List (List Int) → Int → Int → Option ((List (List Int)))
 | 0, _, _, _, _, _, _, _ => none
 | k + 1, x0, x1, x5, x6, x23, x24, x25 => if x25 < x24 then (if 0 ≤ x25 then (if x25 < (x23.length : Int) then ((spec_ahAll.f k (wrap64 ((wrap64 (x0 - 1)) - x6)) (wrap64 ((wrap64 (x1 + (wrap64 (2 * x6)))) + 2))).bind fun t239 => (spec_ahAll.l2 k x0 x1 x5 x6 (rd_L2 x23 x25) x23 x24 x25 t239 (t239.length : Int) 0)) else (none)) else (none)) else (spec_ahAll.l0 k x0 x1 x5 (wrap64 (x6 + 1)))
def spec_ahAll.l2 : Nat → Int → Int → List (List Int) → Int → List Int → List (List Int) → Int → Int → List (List Int) → Int → Int → Option ((List (List Int)))
 | 0, _, _, _, _, _, _, _, _, _, _, _ => none
 | k + 1, x0, x1, x5, x6, x8, x23, x24, x25, x38, x39, x40 => if x40 < x39 then (if 0 ≤ x40 then (if x40 < (x38.length : Int) then ((some (([wrap64 ((wrap64 (x1 + (wrap64 (2 * x6)))) + 1)] : List Int) : List Int)).bind fun y243 => (if y243.length + x8.length < 17592186044416 then ((some (y243 ++ x8 : List Int)).bind fun y246 => (if y246.length < 17592186044416 then ((some (y246 ++ [x1] : List Int)).bind fun y249 => (if y249.length + (rd_L2 x38 x40).length < 17592186044416 then (if x5.length < 5864062014805 then (spec_ahAll.l2 k x0 x1 (x5 ++ [(y249 ++ (rd_L2 x38 x40))]) x6 x8 x23 x24 x25 x38 x39 (wrap64 (x40 + 1))) else (none)) else (none))) else (none))) else (none))) else (none)) else (none)) else (spec_ahAll.l1 k x0 x1 x5 x6 x23 x24 (wrap64 (x25 + 1)))
def spec_ahAll.f : Nat → Int → Int → Option ((List (List Int)))
 | 0, _, _ => none
 | k + 1, a0, a1 => if a0 = 0 then (some (([[]] : List (List Int)))) else (spec_ahAll.l0 k a0 a1 ([] : List (List Int)) 0)
end
theorem spec_ahAll.mono_l : ∀ k, (∀ y0 y1, LeO (spec_ahAll.f k y0 y1) (spec_ahAll.f (k + 1) y0 y1)) ∧ (∀ y0 y1 y2 y3, LeO (spec_ahAll.l0 k y0 y1 y2 y3) (spec_ahAll.l0 (k + 1) y0 y1 y2 y3)) ∧ (∀ y0 y1 y2 y3 y4 y5 y6, LeO (spec_ahAll.l1 k y0 y1 y2 y3 y4 y5 y6) (spec_ahAll.l1 (k + 1) y0 y1 y2 y3 y4 y5 y6)) ∧ (∀ y0 y1 y2 y3 y4 y5 y6 y7 y8 y9 y10, LeO (spec_ahAll.l2 k y0 y1 y2 y3 y4 y5 y6 y7 y8 y9 y10) (spec_ahAll.l2 (k + 1) y0 y1 y2 y3 y4 y5 y6 y7 y8 y9 y10))
 | 0 => ⟨fun _ _ r h => by simp [spec_ahAll.f] at h, fun _ _ _ _ r h => by simp [spec_ahAll.l0] at h, fun _ _ _ _ _ _ _ r h => by simp [spec_ahAll.l1] at h, fun _ _ _ _ _ _ _ _ _ _ _ r h => by simp [spec_ahAll.l2] at h⟩
 | k + 1 => by
  obtain ⟨ih0, ih1, ih2, ih3⟩ := spec_ahAll.mono_l k
  refine ⟨?_, ?_, ?_, ?_⟩
  ·intro y0 y1
   unfold spec_ahAll.f
   repeat' first
   | (with_reducible exact ih0 _ _)
   | (with_reducible exact ih1 _ _ _ _)
   | (with_reducible exact ih2 _ _ _ _ _ _ _)
   | (with_reducible exact ih3 _ _ _ _ _ _ _ _ _ _ _)
   | (with_reducible exact LeO.refl _)
   | (with_reducible exact LeO.none _)
   | (with_reducible refine LeO.ite ?_ ?_)
   | (with_reducible refine LeO.bind ?_ (fun _ => ?_))
   | exact LeO.none _
   | refine LeO.ite ?_ ?_
   | refine LeO.bind ?_ (fun _ => ?_)
  ·intro y0 y1 y2 y3
   unfold spec_ahAll.l0
   repeat' first
   | (with_reducible exact ih0 _ _)
   | (with_reducible exact ih1 _ _ _ _)
   | (with_reducible exact ih2 _ _ _ _ _ _ _)
   | (with_reducible exact ih3 _ _ _ _ _ _ _ _ _ _ _)
   | (with_reducible exact LeO.refl _)
   | (with_reducible exact LeO.none _)
   | (with_reducible refine LeO.ite ?_ ?_)
   | (with_reducible refine LeO.bind ?_ (fun _ => ?_))
   | exact LeO.none _
   | refine LeO.ite ?_ ?_
   | refine LeO.bind ?_ (fun _ => ?_)
  ·intro y0 y1 y2 y3 y4 y5 y6
   unfold spec_ahAll.l1
   repeat' first
   | (with_reducible exact ih0 _ _)
   | (with_reducible exact ih1 _ _ _ _)
   | (with_reducible exact ih2 _ _ _ _ _ _ _)
   | (with_reducible exact ih3 _ _ _ _ _ _ _ _ _ _ _)
   | (with_reducible exact LeO.refl _)
   | (with_reducible exact LeO.none _)
   | (with_reducible refine LeO.ite ?_ ?_)
   | (with_reducible refine LeO.bind ?_ (fun _ => ?_))
   | exact LeO.none _
   | refine LeO.ite ?_ ?_
   | refine LeO.bind ?_ (fun _ => ?_)
  ·intro y0 y1 y2 y3 y4 y5 y6 y7 y8 y9 y10
   unfold spec_ahAll.l2
   repeat' first
   | (with_reducible exact ih0 _ _)
   | (with_reducible exact ih1 _ _ _ _)
   | (with_reducible exact ih2 _ _ _ _ _ _ _)
   | (with_reducible exact ih3 _ _ _ _ _ _ _ _ _ _ _)
   | (with_reducible exact LeO.refl _)
   | (with_reducible exact LeO.none _)
   | (with_reducible refine LeO.ite ?_ ?_)
   | (with_reducible refine LeO.bind ?_ (fun _ => ?_))
   | exact LeO.none _
   | refine LeO.ite ?_ ?_
   | refine LeO.bind ?_ (fun _ => ?_)
theorem spec_ahAll.mono : ∀ a0 a1 k, LeO (spec_ahAll.f k a0 a1) (spec_ahAll.f (k + 1) a0 a1) := by
 intro a0 a1 k
 obtain ⟨ih0, ih1, ih2, ih3⟩ := spec_ahAll.mono_l k
 exact ih0 a0 a1
theorem spec_ahAll.calls (k : Nat) : ∀ (a0 : Int) (a1 : Int) (r : List (List Int)) (w : World) (h : spec_ahAll.f k a0 a1 = some r),
  Calls Try.prog 35 #[.int .i64 a0, .int .i64 a1] w fun e w' => ∃ v0_ : Value, e = .returned (v0_) ∧ Kd.S (Kd.slice 3 (Kd.int .i64)) 26 w' w.heap.size (fun _ => True) v0_ r ∧ Below w.heap.size w w' := by
 induction k using Nat.strongRecOn with
 | _ k ih =>
 intro a0 a1 r w h
 cases k with
 | zero => exact absurd h (by simp [spec_ahAll.f])
 | succ k =>
 simp only [spec_ahAll.f] at h
 have HB := Aside0.mk (Below.refl w.heap.size w)
 have H : (if a0 = 0 then (some (([[]] : List (List Int)))) else (spec_ahAll.l0 k a0 a1 ([] : List (List Int)) 0)) = some r := h
 clear h
 by_cases c3 : a0 = 0
 ·rw [if_pos c3] at H
  have c3b0 : (a0 == 0) = true := beq_iff_eq.mpr c3
  have c3b1 : (a0 != 0) = false := bne_eq_false_iff_eq.mpr c3
  clear c3
  obtain ⟨y232, hy232⟩ : ∃ y_ : List (List Int), y_ = (([[]] : List (List Int))) := ⟨_, rfl⟩
  replace H : (some y232) = some r := by first | (rw [hy232]; with_reducible exact H) | (have H2_ := (Option.bind_some _ _).symm.trans H; rw [hy232]; with_reducible exact H2_) | (have H2_ := (Option.bind_some _ _).symm.trans H; with_reducible exact H2_) | with_reducible exact H | (rw [hy232]; exact H) | exact H
  have Ny232 := Aside0.mk hy232
  clear hy232
  obtain rfl := Option.some.inj H
  go_enter Try.func35, Try.ntmps35
  go_wp2_with (first | ((with_reducible refine gate_dst (N := 14) rfl ?_); refine Kd.S_lit (Kd.slice 3 (Kd.int .i64)) _ 26 ?hg (N := 14) ?hd (xs := ([[]] : List (List Int))) (inner := [.slice none 0 0]) (ok := fun _ => True) (okp := fun _ => True) ?hr ?hp (fun _ hk => hk) trivial (Below.refl _ _) (Nat.le_refl _) (by simp) ?_; (case hd => rfl); (case hg => rfl); (case hr => first | (go_simp; done) | (go_simp; rfl)); (case hp => exact (Reps.one (show Kd.M (Kd.slice 3 (Kd.int .i64)) _ _ _ [] [.slice none 0 0] from ⟨_, rfl, Kd.R_nil _ _ _ _ _⟩) (Reps.none _ _))); intro v233 w4 ho5 hb hg_ hnew_; clear hg_ hnew_; (first | rw [← Ny232.out] at ho5 | (simp only [Int.reduceToNat] at ho5; rw [← Ny232.out] at ho5)); have HO234 := Aside0.mk (Kd.S_lower ho5 (below_size (by repeat (first | exact HB.out | apply bA | apply bN | apply bD)))); replace HB := Aside0.mk (below_step (by repeat (first | exact HB.out | apply bA | apply bN | apply bD)) hb); clear hb ho5))
  go_ret
  exact ⟨_, by first | rfl | (simp [*, errW_none, errW_some] <;> rfl), by (with_reducible repeat (first | apply Kd.S_alloc | apply Kd.S_drewN | apply Kd.S_drew)); exact HO234.out, by repeat (first | exact HB.out | apply bA | apply bN | apply bD)⟩
 ·rw [if_neg c3] at H
  have c3b0 : (a0 == 0) = false := beq_eq_false_iff_ne.mpr c3
  have c3b1 : (a0 != 0) = true := bne_iff_ne.mpr c3
  have H' := Aside0.mk H
  clear H
  go_enter Try.func35, Try.ntmps35
  go_wp2
  go_loopg [5, 6] k (fun kq v5 v6 w' => ∃ (x5_1 : List (List Int)) (x6_1 : Int), v6 = .int .i64 x6_1 ∧ Aside0 (spec_ahAll.l0 kq a0 a1 x5_1 x6_1 = some r) ∧ Aside0 (kq ≤ k) ∧ Aside0 (Kd.S (Kd.slice 3 (Kd.int .i64)) 26 w' w.heap.size (fun _ => True) v5 x5_1) ∧ Aside0 (Below w.heap.size w w'))
  case atStart => exact ⟨(([] : List (List Int))), (0), (by first | rfl | (simp; done) | (simp [*]; done)), H', ⟨Nat.le_refl _⟩, ⟨by first | exact Kd.S_nil _ _ _ _ _ | exact Kd.N_nil _ _ _ _ _ | exact Kd.V_nil _ _ _ _ _ | exact Kd.Q_nil _ _ _ _ _ | exact Kd.R_nil _ _ _ _ _⟩, ⟨by repeat (first | exact HB.out | apply bA | apply bN | apply bD)⟩⟩
  case round =>
   clear H'
   try clear p2
   obtain ⟨x5_1, x6_1, rfl, HA, HK1, HO_5, HB⟩ := hrel
   cases gk with
   | zero => exact absurd HA.out (by simp [spec_ahAll.l0])
   | succ k1 =>
    have H := HA.out
    clear HA
    simp only [spec_ahAll.l0] at H
    by_cases c6 : x6_1 < a0
    ·rw [if_pos c6] at H
     have c6b0 : decide (x6_1 < a0) = true := decide_eq_true c6
     clear c6
     replace H := Option.bind_eq_some_iff.mp H
     obtain ⟨t235, A70, H⟩ := H
     replace H : (spec_ahAll.l1 k1 a0 a1 x5_1 x6_1 t235 (t235.length : Int) 0) = some r := H
     have A7 := Aside0.mk A70
     clear A70
     have H' := Aside0.mk H
     clear H
     go_wp2_with (first | ((with_reducible refine gate_callee (f := 35) rfl ?_); refine goesL_ (some 23) rfl rfl Try.func35 (by kernel_rfl) rfl #[.int .i64 x6_1, .int .i64 (wrap64 (a1 + 1))] rfl (by (try simp only [List.map_toArray, List.map_cons, List.map_nil]); first | done | rfl) ?_; (with_reducible refine (ih k1 (by have := HK1.out; omega) x6_1 (wrap64 (a1 + 1)) t235 _ A7.out).mono ?_); rintro e w8 ⟨v236, rfl, ho0, hb⟩; refine ⟨_, rfl, ?_⟩; have HO237 := Aside0.mk (Kd.S_lower (Kd.S_new' ho0 (Kd.S_lt (by (with_reducible repeat (first | apply Kd.S_alloc | apply Kd.S_drewN | apply Kd.S_drew)); exact HO_5.out))) (below_size (by repeat (first | exact HB.out | apply bA | apply bN | apply bD)))); replace HO_5 := Aside0.mk (Kd.S_elder' (by (with_reducible repeat (first | apply Kd.S_alloc | apply Kd.S_drewN | apply Kd.S_drew)); exact HO_5.out) (Kd.S_base ho0) hb); replace HB := Aside0.mk (below_step (by repeat (first | exact HB.out | apply bA | apply bN | apply bD)) hb); (try clear hb2); (try clear hb hk hi); (try clear ho0); obtain ⟨Ao9, co9, eo9⟩ := Kd.S_slice HO237.out; subst eo9))
     go_loopg [5, 25] k1 (fun kq v5 v25 w' => ∃ (x5_2 : List (List Int)) (x25_2 : Int), v25 = .int .i64 x25_2 ∧ Aside0 (spec_ahAll.l1 kq a0 a1 x5_2 x6_1 t235 (t235.length : Int) x25_2 = some r) ∧ Aside0 (kq ≤ k1) ∧ Aside0 (Kd.S (Kd.slice 3 (Kd.int .i64)) 26 w' w.heap.size (fun k_ => some k_ ≠ ((.slice Ao9 t235.length co9) : Value).ownBlock) v5 x5_2) ∧ Aside0 (Kd.S (Kd.slice 3 (Kd.int .i64)) 26 w' w.heap.size (fun k_ => some k_ ≠ (v5 : Value).ownBlock) (.slice Ao9 t235.length co9) t235) ∧ Aside0 (Below w.heap.size w w'))
     case atStart => exact ⟨(x5_1), (0), (by first | rfl | (simp; done) | (simp [*]; done)), H', ⟨Nat.le_refl _⟩, ⟨by (with_reducible repeat (first | apply Kd.S_alloc | apply Kd.S_drewN | apply Kd.S_drew)); exact Kd.S_mono HO_5.out (fun _ hk => hk.2)⟩, ⟨by (with_reducible repeat (first | apply Kd.S_alloc | apply Kd.S_drewN | apply Kd.S_drew)); exact Kd.S_mono HO237.out (fun _ hk => hk.2)⟩, ⟨by repeat (first | exact HB.out | apply bA | apply bN | apply bD)⟩⟩
     case round =>
      clear H'
      try clear p2
      try clear p6
      try clear p2
      obtain ⟨x5_2, x25_2, rfl, HA, HK2, HO_5, HO_23, HB⟩ := hrel
      cases gk with
      | zero => exact absurd HA.out (by simp [spec_ahAll.l1])
      | succ k2 =>
       have H := HA.out
       clear HA
       simp only [spec_ahAll.l1] at H
       by_cases c10 : x25_2 < (t235.length : Int)
       ·rw [if_pos c10] at H
        have c10b0 : decide (x25_2 < (t235.length : Int)) = true := decide_eq_true c10
        clear c10
        by_cases c11 : 0 ≤ x25_2
        ·rw [if_pos c11] at H
         have c11b0 : decide (0 ≤ x25_2) = true := decide_eq_true c11
         clear c11
         by_cases c12 : x25_2 < (t235.length : Int)
         ·rw [if_pos c12] at H
          have c12b0 : decide (x25_2 < (t235.length : Int)) = true := decide_eq_true c12
          clear c12
          replace H := Option.bind_eq_some_iff.mp H
          obtain ⟨t239, A130, H⟩ := H
          replace H : (spec_ahAll.l2 k2 a0 a1 x5_2 x6_1 (rd_L2 t235 x25_2) t235 (t235.length : Int) x25_2 t239 (t239.length : Int) 0) = some r := H
          have A13 := Aside0.mk A130
          clear A130
          have H' := Aside0.mk H
          clear H
          have p238 : 0 ≤ (x25_2 : Int) := of_decide_eq_true (by assumption)
          have q238 : x25_2 < (t235.length : Int) := of_decide_eq_true (by assumption)
          obtain ⟨ad238, A238_0, c238_0, e238, hx238_0, hl238_0, hi238_0⟩ := at_L2 (Kd.S_reads' HO_23.out).2.2 x25_2 p238 q238
          cases e238
          obtain ⟨ce238, hce238, hMe238, hcc238⟩ := Kd.N_get (Aside0.mk (Kd.S_N HO_23.out)).out [] x25_2 p238 (by first | exact q238 | exact of_decide_eq_true (by assumption) | (have e_ := (Kd.N_reads' (Aside0.mk (Kd.S_N HO_23.out)).out).1; omega))
          obtain ⟨ua238_0, uc238_0, rfl, ul238_0, ge238_0⟩ := Kd.FK_slice_open hMe238
          have hv238_0 := hcc238 0 _ rfl
          rw [Nat.add_zero, show ((Kd.slice 3 (Kd.int .i64))).sz = 1 from rfl, Nat.mul_one] at hv238_0
          replace hv238_0 := Option.some.inj (hv238_0.symm.trans hx238_0)
          injection hv238_0 with hva_ hvn_ hvc_
          rw [hva_] at ge238_0
          rw [hvc_] at ul238_0
          have HL238_0 := Aside0.mk (show Kd.V (Kd.int .i64) 3 _ w.heap.size _ _ (rd_L2 t235 x25_2) from Kd.V_mk ul238_0 ge238_0)
          clear hva_ hvn_ hvc_ ge238_0 ul238_0 hcc238 hce238
          have HR238_0 := Aside0.mk hi238_0
          have HC238_0 := Aside0.mk hl238_0
          clear hi238_0 hl238_0
          replace p238 := eq_true p238
          replace q238 := eq_true q238
          go_wp2_with (first | ((with_reducible refine gate_callee (f := 35) rfl ?_); refine goesL_ (some 38) rfl rfl Try.func35 (by kernel_rfl) rfl #[.int .i64 (wrap64 ((wrap64 (a0 - 1)) - x6_1)), .int .i64 (wrap64 ((wrap64 (a1 + (wrap64 (2 * x6_1)))) + 2))] rfl (by (try simp only [List.map_toArray, List.map_cons, List.map_nil]); first | done | rfl) ?_; (with_reducible refine (ih k2 (by have := HK1.out; have := HK2.out; omega) (wrap64 ((wrap64 (a0 - 1)) - x6_1)) (wrap64 ((wrap64 (a1 + (wrap64 (2 * x6_1)))) + 2)) t239 _ A13.out).mono ?_); rintro e w14 ⟨v240, rfl, ho0, hb⟩; refine ⟨_, rfl, ?_⟩; replace HL238_0 := Aside0.mk (Kd.V_elder' (by (with_reducible repeat (first | apply Kd.V_alloc | apply Kd.V_drewN | apply Kd.V_drew)); exact HL238_0.out) (Kd.S_base ho0) hb); have HO241 := Aside0.mk (Kd.S_lower (Kd.S_new' (Kd.S_new' ho0 (Kd.S_lt (by (with_reducible repeat (first | apply Kd.S_alloc | apply Kd.S_drewN | apply Kd.S_drew)); exact HO_5.out))) (Kd.S_lt (by (with_reducible repeat (first | apply Kd.S_alloc | apply Kd.S_drewN | apply Kd.S_drew)); exact HO_23.out))) (below_size (by repeat (first | exact HB.out | apply bA | apply bN | apply bD)))); replace HO_5 := Aside0.mk (Kd.S_elder' (by (with_reducible repeat (first | apply Kd.S_alloc | apply Kd.S_drewN | apply Kd.S_drew)); exact HO_5.out) (Kd.S_base ho0) hb); replace HO_23 := Aside0.mk (Kd.S_elder' (by (with_reducible repeat (first | apply Kd.S_alloc | apply Kd.S_drewN | apply Kd.S_drew)); exact HO_23.out) (Kd.S_base ho0) hb); replace HR238_0 := Aside0.mk (Kd.C_below (by repeat (first | (with_reducible exact HR238_0.out) | (with_reducible refine Kd.C_alloc ?_ _) | (with_reducible refine Kd.C_drewN ?_ _) | (with_reducible refine Kd.C_drew ?_) | exact HR238_0.out)) hb); replace HB := Aside0.mk (below_step (by repeat (first | exact HB.out | apply bA | apply bN | apply bD)) hb); (try clear hb2); (try clear hb hk hi); (try clear ho0); obtain ⟨Ao15, co15, eo15⟩ := Kd.S_slice HO241.out; subst eo15))
          go_loopg [5, 40] k2 (fun kq v5 v40 w' => ∃ (x5_3 : List (List Int)) (x40_3 : Int), v40 = .int .i64 x40_3 ∧ Aside0 (spec_ahAll.l2 kq a0 a1 x5_3 x6_1 (rd_L2 t235 x25_2) t235 (t235.length : Int) x25_2 t239 (t239.length : Int) x40_3 = some r) ∧ Aside0 (kq ≤ k2) ∧ Aside0 (Kd.S (Kd.slice 3 (Kd.int .i64)) 26 w' w.heap.size (fun k_ => some k_ ≠ ((.slice (some ad238) t235.length co9) : Value).ownBlock ∧ some k_ ≠ ((.slice Ao15 t239.length co15) : Value).ownBlock) v5 x5_3) ∧ Aside0 (Kd.V (Kd.int .i64) 3 w' w.heap.size (fun k_ => some k_ ≠ (v5 : Value).ownBlock ∧ some k_ ≠ ((.slice (some ad238) t235.length co9) : Value).ownBlock ∧ some k_ ≠ ((.slice Ao15 t239.length co15) : Value).ownBlock) (.slice A238_0 (rd_L2 t235 x25_2).length c238_0) (rd_L2 t235 x25_2)) ∧ Aside0 (Kd.S (Kd.slice 3 (Kd.int .i64)) 26 w' w.heap.size (fun k_ => some k_ ≠ (v5 : Value).ownBlock ∧ some k_ ≠ ((.slice Ao15 t239.length co15) : Value).ownBlock) (.slice (some ad238) t235.length co9) t235) ∧ Aside0 (Kd.S (Kd.slice 3 (Kd.int .i64)) 26 w' w.heap.size (fun k_ => some k_ ≠ (v5 : Value).ownBlock ∧ some k_ ≠ ((.slice (some ad238) t235.length co9) : Value).ownBlock) (.slice Ao15 t239.length co15) t239) ∧ Aside0 (Below w.heap.size w w'))
          case atStart => exact ⟨(x5_2), (0), (by first | rfl | (simp; done) | (simp [*]; done)), H', ⟨Nat.le_refl _⟩, ⟨by (with_reducible repeat (first | apply Kd.S_alloc | apply Kd.S_drewN | apply Kd.S_drew)); exact HO_5.out⟩, ⟨by (with_reducible repeat (first | apply Kd.V_alloc | apply Kd.V_drewN | apply Kd.V_drew)); exact Kd.V_mono HL238_0.out (fun _ hk => ⟨hk.1.1, ⟨hk.1.2, hk.2⟩⟩)⟩, ⟨by (with_reducible repeat (first | apply Kd.S_alloc | apply Kd.S_drewN | apply Kd.S_drew)); exact HO_23.out⟩, ⟨by (with_reducible repeat (first | apply Kd.S_alloc | apply Kd.S_drewN | apply Kd.S_drew)); exact Kd.S_mono HO241.out (fun _ hk => ⟨hk.1.2, hk.2⟩)⟩, ⟨by repeat (first | exact HB.out | apply bA | apply bN | apply bD)⟩⟩
          case round =>
           clear H'
           try clear p2
           try clear q2
           try clear hx2
           try clear p6
           try clear hx238_0
           try clear p2
           try clear p238
           try clear p6
           try clear q238
           obtain ⟨x5_3, x40_3, rfl, HA, HK3, HO_5, HO_8, HO_23, HO_38, HB⟩ := hrel
           cases gk with
           | zero => exact absurd HA.out (by simp [spec_ahAll.l2])
           | succ k3 =>
            have H := HA.out
            clear HA
            simp only [spec_ahAll.l2] at H
            by_cases c16 : x40_3 < (t239.length : Int)
            ·rw [if_pos c16] at H
             have c16b0 : decide (x40_3 < (t239.length : Int)) = true := decide_eq_true c16
             clear c16
             by_cases c17 : 0 ≤ x40_3
             ·rw [if_pos c17] at H
              have c17b0 : decide (0 ≤ x40_3) = true := decide_eq_true c17
              clear c17
              by_cases c18 : x40_3 < (t239.length : Int)
              ·rw [if_pos c18] at H
               have c18b0 : decide (x40_3 < (t239.length : Int)) = true := decide_eq_true c18
               clear c18
               obtain ⟨y243, hy243⟩ : ∃ y_ : List Int, y_ = (([wrap64 ((wrap64 (a1 + (wrap64 (2 * x6_1)))) + 1)] : List Int)) := ⟨_, rfl⟩
               replace H : (if y243.length + (rd_L2 t235 x25_2).length < 17592186044416 then ((some (y243 ++ (rd_L2 t235 x25_2) : List Int)).bind fun y246 => (if y246.length < 17592186044416 then ((some (y246 ++ [a1] : List Int)).bind fun y249 => (if y249.length + (rd_L2 t239 x40_3).length < 17592186044416 then (if x5_3.length < 5864062014805 then (spec_ahAll.l2 k3 a0 a1 (x5_3 ++ [(y249 ++ (rd_L2 t239 x40_3))]) x6_1 (rd_L2 t235 x25_2) t235 (t235.length : Int) x25_2 t239 (t239.length : Int) (wrap64 (x40_3 + 1))) else (none)) else (none))) else (none))) else (none)) = some r := by first | (rw [hy243]; with_reducible exact H) | (have H2_ := (Option.bind_some _ _).symm.trans H; rw [hy243]; with_reducible exact H2_) | (have H2_ := (Option.bind_some _ _).symm.trans H; with_reducible exact H2_) | with_reducible exact H | (rw [hy243]; exact H) | exact H
               have Ny243 := Aside0.mk hy243
               clear hy243
               by_cases c19 : y243.length + (rd_L2 t235 x25_2).length < 17592186044416
               ·rw [if_pos c19] at H
                have LMc19 := Aside0.mk c19
                clear c19
                obtain ⟨y246, hy246⟩ : ∃ y_ : List Int, y_ = (y243 ++ (rd_L2 t235 x25_2)) := ⟨_, rfl⟩
                replace H : (if y246.length < 17592186044416 then ((some (y246 ++ [a1] : List Int)).bind fun y249 => (if y249.length + (rd_L2 t239 x40_3).length < 17592186044416 then (if x5_3.length < 5864062014805 then (spec_ahAll.l2 k3 a0 a1 (x5_3 ++ [(y249 ++ (rd_L2 t239 x40_3))]) x6_1 (rd_L2 t235 x25_2) t235 (t235.length : Int) x25_2 t239 (t239.length : Int) (wrap64 (x40_3 + 1))) else (none)) else (none))) else (none)) = some r := by first | (rw [hy246]; with_reducible exact H) | (have H2_ := (Option.bind_some _ _).symm.trans H; rw [hy246]; with_reducible exact H2_) | (have H2_ := (Option.bind_some _ _).symm.trans H; with_reducible exact H2_) | with_reducible exact H | (rw [hy246]; exact H) | exact H
                have Ny246 := Aside0.mk hy246
                clear hy246
                by_cases c20 : y246.length < 17592186044416
                ·rw [if_pos c20] at H
                 have LMc20 := Aside0.mk c20
                 clear c20
                 obtain ⟨y249, hy249⟩ : ∃ y_ : List Int, y_ = (y246 ++ [a1]) := ⟨_, rfl⟩
                 replace H : (if y249.length + (rd_L2 t239 x40_3).length < 17592186044416 then (if x5_3.length < 5864062014805 then (spec_ahAll.l2 k3 a0 a1 (x5_3 ++ [(y249 ++ (rd_L2 t239 x40_3))]) x6_1 (rd_L2 t235 x25_2) t235 (t235.length : Int) x25_2 t239 (t239.length : Int) (wrap64 (x40_3 + 1))) else (none)) else (none)) = some r := by first | (rw [hy249]; with_reducible exact H) | (have H2_ := (Option.bind_some _ _).symm.trans H; rw [hy249]; with_reducible exact H2_) | (have H2_ := (Option.bind_some _ _).symm.trans H; with_reducible exact H2_) | with_reducible exact H | (rw [hy249]; exact H) | exact H
                 have Ny249 := Aside0.mk hy249
                 clear hy249
                 by_cases c21 : y249.length + (rd_L2 t239 x40_3).length < 17592186044416
                 ·rw [if_pos c21] at H
                  have LMc21 := Aside0.mk c21
                  clear c21
                  obtain ⟨y252, hy252⟩ : ∃ y_ : List Int, y_ = (y249 ++ (rd_L2 t239 x40_3)) := ⟨_, rfl⟩
                  replace H : (if x5_3.length < 5864062014805 then (spec_ahAll.l2 k3 a0 a1 (x5_3 ++ [y252]) x6_1 (rd_L2 t235 x25_2) t235 (t235.length : Int) x25_2 t239 (t239.length : Int) (wrap64 (x40_3 + 1))) else (none)) = some r := by first | (rw [hy252]; with_reducible exact H) | (have H2_ := (Option.bind_some _ _).symm.trans H; rw [hy252]; with_reducible exact H2_) | (have H2_ := (Option.bind_some _ _).symm.trans H; with_reducible exact H2_) | with_reducible exact H | (rw [hy252]; exact H) | exact H
                  have Ny252 := Aside0.mk hy252
                  clear hy252
                  by_cases c22 : x5_3.length < 5864062014805
                  ·rw [if_pos c22] at H
                   have LMc22 := Aside0.mk c22
                   clear c22
                   obtain ⟨y255, hy255⟩ : ∃ y_ : List (List Int), y_ = (x5_3 ++ [y252]) := ⟨_, rfl⟩
                   replace H : (spec_ahAll.l2 k3 a0 a1 y255 x6_1 (rd_L2 t235 x25_2) t235 (t235.length : Int) x25_2 t239 (t239.length : Int) (wrap64 (x40_3 + 1))) = some r := by first | (rw [hy255]; with_reducible exact H) | (have H2_ := (Option.bind_some _ _).symm.trans H; rw [hy255]; with_reducible exact H2_) | (have H2_ := (Option.bind_some _ _).symm.trans H; with_reducible exact H2_) | with_reducible exact H | (rw [hy255]; exact H) | exact H
                   have Ny255 := Aside0.mk hy255
                   clear hy255
                   have H' := Aside0.mk H
                   clear H
                   have p242 : 0 ≤ (x40_3 : Int) := of_decide_eq_true (by assumption)
                   have q242 : x40_3 < (t239.length : Int) := of_decide_eq_true (by assumption)
                   obtain ⟨ad242, A242_0, c242_0, e242, hx242_0, hl242_0, hi242_0⟩ := at_L2 (Kd.S_reads' HO_38.out).2.2 x40_3 p242 q242
                   cases e242
                   obtain ⟨ce242, hce242, hMe242, hcc242⟩ := Kd.N_get (Aside0.mk (Kd.S_N HO_38.out)).out [] x40_3 p242 (by first | exact q242 | exact of_decide_eq_true (by assumption) | (have e_ := (Kd.N_reads' (Aside0.mk (Kd.S_N HO_38.out)).out).1; omega))
                   obtain ⟨ua242_0, uc242_0, rfl, ul242_0, ge242_0⟩ := Kd.FK_slice_open hMe242
                   have hv242_0 := hcc242 0 _ rfl
                   rw [Nat.add_zero, show ((Kd.slice 3 (Kd.int .i64))).sz = 1 from rfl, Nat.mul_one] at hv242_0
                   replace hv242_0 := Option.some.inj (hv242_0.symm.trans hx242_0)
                   injection hv242_0 with hva_ hvn_ hvc_
                   rw [hva_] at ge242_0
                   rw [hvc_] at ul242_0
                   have HL242_0 := Aside0.mk (show Kd.V (Kd.int .i64) 3 _ w.heap.size _ _ (rd_L2 t239 x40_3) from Kd.V_mk ul242_0 ge242_0)
                   clear hva_ hvn_ hvc_ ge242_0 ul242_0 hcc242 hce242
                   have HR242_0 := Aside0.mk hi242_0
                   have HC242_0 := Aside0.mk hl242_0
                   clear hi242_0 hl242_0
                   replace p242 := eq_true p242
                   replace q242 := eq_true q242
                   go_wp2_with (first | ((with_reducible refine gate_dst (N := 49) rfl ?_); refine Kd.R_lit (Kd.int .i64) _ 3 ?hg (N := 49) ?hd (xs := ([wrap64 ((wrap64 (a1 + (wrap64 (2 * x6_1)))) + 1)] : List Int)) (inner := [.int .i64 (wrap64 ((wrap64 (a1 + (wrap64 (2 * x6_1)))) + 1))]) (ok := fun _ => True) (okp := fun _ => True) ?hr ?hp (fun _ hk => hk) trivial (Below.refl _ _) (Nat.le_refl _) (by simp) ?_; (case hd => rfl); (case hg => rfl); (case hr => first | (go_simp; done) | (go_simp; rfl)); (case hp => exact (Reps.one (show Kd.M (Kd.int .i64) _ _ _ (wrap64 ((wrap64 (a1 + (wrap64 (2 * x6_1)))) + 1)) [.int .i64 (wrap64 ((wrap64 (a1 + (wrap64 (2 * x6_1)))) + 1))] from rfl) (Reps.none _ _))); intro v244 w23 ho24 hb hg_ hnew_; clear hg_ hnew_; (first | rw [← Ny243.out] at ho24 | (simp only [Int.reduceToNat] at ho24; rw [← Ny243.out] at ho24)); replace HO_5 := Aside0.mk (Kd.S_elder' (by (with_reducible repeat (first | apply Kd.S_alloc | apply Kd.S_drewN | apply Kd.S_drew)); exact HO_5.out) (Kd.R_base ho24) hb); replace HO_8 := Aside0.mk (Kd.V_elder' (by (with_reducible repeat (first | apply Kd.V_alloc | apply Kd.V_drewN | apply Kd.V_drew)); exact HO_8.out) (Kd.R_base ho24) hb); replace HO_23 := Aside0.mk (Kd.S_elder' (by (with_reducible repeat (first | apply Kd.S_alloc | apply Kd.S_drewN | apply Kd.S_drew)); exact HO_23.out) (Kd.R_base ho24) hb); replace HO_38 := Aside0.mk (Kd.S_elder' (by (with_reducible repeat (first | apply Kd.S_alloc | apply Kd.S_drewN | apply Kd.S_drew)); exact HO_38.out) (Kd.R_base ho24) hb); replace HL242_0 := Aside0.mk (Kd.V_elder' (by (with_reducible repeat (first | apply Kd.V_alloc | apply Kd.V_drewN | apply Kd.V_drew)); exact HL242_0.out) (Kd.R_base ho24) hb); have HO245 := Aside0.mk (Kd.R_lower ho24 (below_size (by repeat (first | exact HB.out | apply bA | apply bN | apply bD)))); replace HR242_0 := Aside0.mk (Kd.C_below (by repeat (first | (with_reducible exact HR242_0.out) | (with_reducible refine Kd.C_alloc ?_ _) | (with_reducible refine Kd.C_drewN ?_ _) | (with_reducible refine Kd.C_drew ?_) | exact HR242_0.out)) hb); replace HB := Aside0.mk (below_step (by repeat (first | exact HB.out | apply bA | apply bN | apply bD)) hb); clear hb ho24) | ((with_reducible refine gate_builtin (b := .append) (xs := #[.tmp 49, .tmp 50]) rfl ?_); at_builtin; refine Kd.R_append_rows (Kd.int .i64) (w0 := w) w.heap.size rfl (.tmp 49) (.tmp 50) 26 3 (.int .i64 0) 8 rfl Try.underlying26 info3 rfl (by decide) (by omega) v244 y243 (rd_L2 t235 x25_2) _ _ _ (fun _ => True) (fun _ => False) rfl rfl ?aO ?aR (fun _ _ h => h) (fun _ h => h.elim) ?aF ?aB ?aS ?aL ?_; (case aR => repeat (first | exact (Kd.V_reads' HO_8.out).2.2 | (with_reducible refine Kd.C_alloc ?_ _) | (with_reducible refine Kd.C_drewN ?_ _) | (with_reducible refine Kd.C_drew ?_))); (case aB => exact (by repeat (first | exact HB.out | apply bA | apply bN | apply bD))); (case aF => exact (fun _ _ => trivial)); (case aO => exact (by (with_reducible repeat (first | apply rA | apply rN | apply rD)); exact HO245.out)); (case aS => exact (below_size (by repeat (first | exact HB.out | apply bA | apply bN | apply bD)))); (case aL => have := LMc19.out; omega); intro v247 w25 ho hb hg hat; rw [← Ny246.out] at ho; replace HO_5 := Aside0.mk (Kd.S_after (ok := (fun k_ => some k_ ≠ (.slice (some ad238) t235.length co9 : Value).ownBlock ∧ some k_ ≠ (.slice (some ad242) t239.length co15 : Value).ownBlock)) (by (with_reducible repeat (first | apply Kd.S_alloc | apply Kd.S_drewN | apply Kd.S_drew)); exact HO_5.out) hg hat); replace HO_8 := Aside0.mk (Kd.V_afterv (ok := (fun k_ => some k_ ≠ (u5 : Value).ownBlock ∧ some k_ ≠ (.slice (some ad238) t235.length co9 : Value).ownBlock ∧ some k_ ≠ (.slice (some ad242) t239.length co15 : Value).ownBlock)) (by (with_reducible repeat (first | apply Kd.V_alloc | apply Kd.V_drewN | apply Kd.V_drew)); exact HO_8.out) hg hat); replace HO_23 := Aside0.mk (Kd.S_after (ok := (fun k_ => some k_ ≠ (u5 : Value).ownBlock ∧ some k_ ≠ (.slice (some ad242) t239.length co15 : Value).ownBlock)) (by (with_reducible repeat (first | apply Kd.S_alloc | apply Kd.S_drewN | apply Kd.S_drew)); exact HO_23.out) hg hat); replace HO_38 := Aside0.mk (Kd.S_after (ok := (fun k_ => some k_ ≠ (u5 : Value).ownBlock ∧ some k_ ≠ (.slice (some ad238) t235.length co9 : Value).ownBlock)) (by (with_reducible repeat (first | apply Kd.S_alloc | apply Kd.S_drewN | apply Kd.S_drew)); exact HO_38.out) hg hat); replace HL242_0 := Aside0.mk (Kd.V_afterv (ok := (fun k_ => some k_ ≠ (u5 : Value).ownBlock ∧ some k_ ≠ (.slice (some ad238) t235.length co9 : Value).ownBlock ∧ some k_ ≠ (.slice (some ad242) t239.length co15 : Value).ownBlock)) (by (with_reducible repeat (first | apply Kd.V_alloc | apply Kd.V_drewN | apply Kd.V_drew)); exact Kd.V_mono HL242_0.out (fun _ hk => ⟨⟨hk.1.1.1, ⟨hk.1.1.2, hk.1.2⟩⟩, hk.2⟩)) hg hat); replace HB := Aside0.mk (hb); have HO248 := Aside0.mk (ho); clear HO245; clear ho hb hg hat) | ((with_reducible refine gate_builtin (b := .append) (xs := #[.tmp 52, .tmp 54]) rfl ?_); at_builtin; refine Kd.R_append (Kd.int .i64) (w0 := w) w.heap.size rfl (.tmp 52) (.tmp 54) 26 3 (.int .i64 0) 8 rfl Try.underlying26 info3 rfl (by decide) (by omega) v247 y246 a1 [.int .i64 a1] (fun _ => True) (fun _ => False) rfl rfl ?aP (fun _ hk => hk.elim) ?aF ?aO ?aB ?aS ?aL ?_; (case aP => exact rfl); (case aB => exact (by repeat (first | exact HB.out | apply bA | apply bN | apply bD))); (case aF => exact (fun _ _ => trivial)); (case aO => exact (by (with_reducible repeat (first | apply rA | apply rN | apply rD)); exact HO248.out)); (case aS => exact (below_size (by repeat (first | exact HB.out | apply bA | apply bN | apply bD)))); (case aL => have := LMc20.out; omega); intro v250 w26 ho hb hg hat; rw [← Ny249.out] at ho; replace HO_5 := Aside0.mk (Kd.S_after (ok := (fun k_ => some k_ ≠ (.slice (some ad238) t235.length co9 : Value).ownBlock ∧ some k_ ≠ (.slice (some ad242) t239.length co15 : Value).ownBlock)) (by (with_reducible repeat (first | apply Kd.S_alloc | apply Kd.S_drewN | apply Kd.S_drew)); exact HO_5.out) hg hat); replace HO_8 := Aside0.mk (Kd.V_afterv (ok := (fun k_ => some k_ ≠ (u5 : Value).ownBlock ∧ some k_ ≠ (.slice (some ad238) t235.length co9 : Value).ownBlock ∧ some k_ ≠ (.slice (some ad242) t239.length co15 : Value).ownBlock)) (by (with_reducible repeat (first | apply Kd.V_alloc | apply Kd.V_drewN | apply Kd.V_drew)); exact HO_8.out) hg hat); replace HO_23 := Aside0.mk (Kd.S_after (ok := (fun k_ => some k_ ≠ (u5 : Value).ownBlock ∧ some k_ ≠ (.slice (some ad242) t239.length co15 : Value).ownBlock)) (by (with_reducible repeat (first | apply Kd.S_alloc | apply Kd.S_drewN | apply Kd.S_drew)); exact HO_23.out) hg hat); replace HO_38 := Aside0.mk (Kd.S_after (ok := (fun k_ => some k_ ≠ (u5 : Value).ownBlock ∧ some k_ ≠ (.slice (some ad238) t235.length co9 : Value).ownBlock)) (by (with_reducible repeat (first | apply Kd.S_alloc | apply Kd.S_drewN | apply Kd.S_drew)); exact HO_38.out) hg hat); replace HL242_0 := Aside0.mk (Kd.V_afterv (ok := (fun k_ => some k_ ≠ (u5 : Value).ownBlock ∧ some k_ ≠ (.slice (some ad238) t235.length co9 : Value).ownBlock ∧ some k_ ≠ (.slice (some ad242) t239.length co15 : Value).ownBlock)) (by (with_reducible repeat (first | apply Kd.V_alloc | apply Kd.V_drewN | apply Kd.V_drew)); exact HL242_0.out) hg hat); replace HB := Aside0.mk (hb); have HO251 := Aside0.mk (ho); clear HO248; clear ho hb hg hat) | ((with_reducible refine gate_builtin (b := .append) (xs := #[.tmp 55, .tmp 56]) rfl ?_); at_builtin; refine Kd.R_append_rows (Kd.int .i64) (w0 := w) w.heap.size rfl (.tmp 55) (.tmp 56) 26 3 (.int .i64 0) 8 rfl Try.underlying26 info3 rfl (by decide) (by omega) v250 y249 (rd_L2 t239 x40_3) _ _ _ (fun _ => True) (fun _ => False) rfl rfl ?aO ?aR (fun _ _ h => h) (fun _ h => h.elim) ?aF ?aB ?aS ?aL ?_; (case aR => repeat (first | exact (Kd.V_reads' HL242_0.out).2.2 | (with_reducible refine Kd.C_alloc ?_ _) | (with_reducible refine Kd.C_drewN ?_ _) | (with_reducible refine Kd.C_drew ?_))); (case aB => exact (by repeat (first | exact HB.out | apply bA | apply bN | apply bD))); (case aF => exact (fun _ _ => trivial)); (case aO => exact (by (with_reducible repeat (first | apply rA | apply rN | apply rD)); exact HO251.out)); (case aS => exact (below_size (by repeat (first | exact HB.out | apply bA | apply bN | apply bD)))); (case aL => have := LMc21.out; omega); intro v253 w27 ho hb hg hat; rw [← Ny252.out] at ho; replace HO_5 := Aside0.mk (Kd.S_after (ok := (fun k_ => some k_ ≠ (.slice (some ad238) t235.length co9 : Value).ownBlock ∧ some k_ ≠ (.slice (some ad242) t239.length co15 : Value).ownBlock)) (by (with_reducible repeat (first | apply Kd.S_alloc | apply Kd.S_drewN | apply Kd.S_drew)); exact HO_5.out) hg hat); replace HO_8 := Aside0.mk (Kd.V_afterv (ok := (fun k_ => some k_ ≠ (u5 : Value).ownBlock ∧ some k_ ≠ (.slice (some ad238) t235.length co9 : Value).ownBlock ∧ some k_ ≠ (.slice (some ad242) t239.length co15 : Value).ownBlock)) (by (with_reducible repeat (first | apply Kd.V_alloc | apply Kd.V_drewN | apply Kd.V_drew)); exact HO_8.out) hg hat); replace HO_23 := Aside0.mk (Kd.S_after (ok := (fun k_ => some k_ ≠ (u5 : Value).ownBlock ∧ some k_ ≠ (.slice (some ad242) t239.length co15 : Value).ownBlock)) (by (with_reducible repeat (first | apply Kd.S_alloc | apply Kd.S_drewN | apply Kd.S_drew)); exact HO_23.out) hg hat); replace HO_38 := Aside0.mk (Kd.S_after (ok := (fun k_ => some k_ ≠ (u5 : Value).ownBlock ∧ some k_ ≠ (.slice (some ad238) t235.length co9 : Value).ownBlock)) (by (with_reducible repeat (first | apply Kd.S_alloc | apply Kd.S_drewN | apply Kd.S_drew)); exact HO_38.out) hg hat); replace HL242_0 := Aside0.mk (Kd.V_afterv (ok := (fun k_ => some k_ ≠ (u5 : Value).ownBlock ∧ some k_ ≠ (.slice (some ad238) t235.length co9 : Value).ownBlock ∧ some k_ ≠ (.slice (some ad242) t239.length co15 : Value).ownBlock)) (by (with_reducible repeat (first | apply Kd.V_alloc | apply Kd.V_drewN | apply Kd.V_drew)); exact HL242_0.out) hg hat); replace HB := Aside0.mk (hb); have HO254 := Aside0.mk (ho); clear HO251; clear ho hb hg hat; obtain ⟨Ao29, co29, eo29⟩ := Kd.R_slice HO254.out; subst eo29) | ((with_reducible refine gate_builtin (b := .append) (xs := #[.tmp 58, .tmp 60]) rfl ?_); at_builtin; refine Kd.S_append (Kd.slice 3 (Kd.int .i64)) (w0 := w) w.heap.size rfl (.tmp 58) (.tmp 60) 33 26 (.slice none 0 0) 24 rfl Try.underlying33 info26 rfl (by decide) (by omega) u5 x5_3 y252 [.slice Ao29 y252.length co29] (fun k_ => some k_ ≠ (.slice (some ad238) t235.length co9 : Value).ownBlock ∧ some k_ ≠ (.slice (some ad242) t239.length co15 : Value).ownBlock) (fun k_ => some k_ = (.slice Ao29 y252.length co29 : Value).ownBlock) rfl rfl ?aP (fun k_ hk_ => ((Kd.R_mono (ok' := fun k_ => ((fun k_ => some k_ ≠ (.slice (some ad238) t235.length co9 : Value).ownBlock ∧ some k_ ≠ (.slice (some ad242) t239.length co15 : Value).ownBlock)) k_ ∧ some k_ ≠ (u5 : Value).ownBlock) (Kd.R_apart' (Kd.R_apart' (Kd.R_apart' (HO254.out) (Kd.S_typed HO_23.out) (by decide)) (Kd.S_typed HO_38.out) (by decide)) (Kd.S_typed HO_5.out) (by decide)) (fun k_ hk => ⟨⟨hk.1.1.2, hk.1.2⟩, hk.2⟩))).1 k_ hk_.symm) ?aF ?aO ?aB ?aS ?aL ?_; (case aP => exact Kd.M_row (Kd.R_mono (Kd.R_tight rfl (Kd.R_mono (ok' := fun k_ => ((fun k_ => some k_ ≠ (.slice (some ad238) t235.length co9 : Value).ownBlock ∧ some k_ ≠ (.slice (some ad242) t239.length co15 : Value).ownBlock)) k_ ∧ some k_ ≠ (u5 : Value).ownBlock) (Kd.R_apart' (Kd.R_apart' (Kd.R_apart' (HO254.out) (Kd.S_typed HO_23.out) (by decide)) (Kd.S_typed HO_38.out) (by decide)) (Kd.S_typed HO_5.out) (by decide)) (fun k_ hk => ⟨⟨hk.1.1.2, hk.1.2⟩, hk.2⟩))) (fun _ h_ => h_))); (case aB => exact (by repeat (first | exact HB.out | apply bA | apply bN | apply bD))); (case aF => exact (fun k_ hk => ⟨Kd.fresh' (Kd.S_lt (by (with_reducible repeat (first | apply Kd.S_alloc | apply Kd.S_drewN | apply Kd.S_drew)); exact HO_23.out)) k_ hk, Kd.fresh' (Kd.S_lt (by (with_reducible repeat (first | apply Kd.S_alloc | apply Kd.S_drewN | apply Kd.S_drew)); exact HO_38.out)) k_ hk⟩)); (case aO => exact (by (with_reducible repeat (first | apply Kd.S_alloc | apply Kd.S_drewN | apply Kd.S_drew)); exact Kd.S_mono HO_5.out (fun k_ hk => ⟨⟨hk.1.1, hk.1.2⟩, fun e_ => hk.2 e_⟩))); (case aS => exact (below_size (by repeat (first | exact HB.out | apply bA | apply bN | apply bD)))); (case aL => have := LMc22.out; omega); intro v256 w28 ho hb hg hat; rw [← Ny255.out] at ho; replace HO_8 := Aside0.mk (Kd.V_afterv (ok := (fun k_ => some k_ ≠ (.slice (some ad238) t235.length co9 : Value).ownBlock ∧ some k_ ≠ (.slice (some ad242) t239.length co15 : Value).ownBlock ∧ some k_ ≠ (.slice Ao29 y252.length co29 : Value).ownBlock)) (by (with_reducible repeat (first | apply Kd.V_alloc | apply Kd.V_drewN | apply Kd.V_drew)); exact Kd.V_mono HO_8.out (fun _ hk => ⟨⟨hk.1.2.1, ⟨hk.1.2.2, hk.2⟩⟩, hk.1.1⟩)) hg hat); replace HO_23 := Aside0.mk (Kd.S_after (ok := (fun k_ => some k_ ≠ (.slice (some ad242) t239.length co15 : Value).ownBlock ∧ some k_ ≠ (.slice Ao29 y252.length co29 : Value).ownBlock)) (by (with_reducible repeat (first | apply Kd.S_alloc | apply Kd.S_drewN | apply Kd.S_drew)); exact Kd.S_mono HO_23.out (fun _ hk => ⟨⟨hk.1.2, hk.2⟩, hk.1.1⟩)) hg hat); replace HO_38 := Aside0.mk (Kd.S_after (ok := (fun k_ => some k_ ≠ (.slice (some ad238) t235.length co9 : Value).ownBlock ∧ some k_ ≠ (.slice Ao29 y252.length co29 : Value).ownBlock)) (by (with_reducible repeat (first | apply Kd.S_alloc | apply Kd.S_drewN | apply Kd.S_drew)); exact Kd.S_mono HO_38.out (fun _ hk => ⟨⟨hk.1.2, hk.2⟩, hk.1.1⟩)) hg hat); replace HL242_0 := Aside0.mk (Kd.V_afterv (ok := (fun k_ => some k_ ≠ (.slice (some ad238) t235.length co9 : Value).ownBlock ∧ some k_ ≠ (.slice (some ad242) t239.length co15 : Value).ownBlock ∧ some k_ ≠ (.slice Ao29 y252.length co29 : Value).ownBlock)) (by (with_reducible repeat (first | apply Kd.V_alloc | apply Kd.V_drewN | apply Kd.V_drew)); exact Kd.V_mono HL242_0.out (fun _ hk => ⟨⟨hk.1.2.1, ⟨hk.1.2.2, hk.2⟩⟩, hk.1.1⟩)) hg hat); replace HB := Aside0.mk (hb); have HO257 := Aside0.mk (ho); clear HO_5 HO254; clear ho hb hg hat))
                   go_roundg k3
                   case measure => have := HK1.out; have := HK2.out; have := HK3.out; omega
                   case rel => exact ⟨(y255), (wrap64 (x40_3 + 1)), (by first | rfl | (simp; done) | (simp [*]; done)), H', ⟨by have := HK1.out; have := HK2.out; have := HK3.out; omega⟩, ⟨by (with_reducible repeat (first | apply Kd.S_alloc | apply Kd.S_drewN | apply Kd.S_drew)); exact HO257.out⟩, ⟨by (with_reducible repeat (first | apply Kd.V_alloc | apply Kd.V_drewN | apply Kd.V_drew)); exact Kd.V_mono HO_8.out (fun _ hk => ⟨hk.2, ⟨hk.1.1, hk.1.2.1⟩⟩)⟩, ⟨by (with_reducible repeat (first | apply Kd.S_alloc | apply Kd.S_drewN | apply Kd.S_drew)); exact Kd.S_mono HO_23.out (fun _ hk => ⟨hk.2, hk.1.1⟩)⟩, ⟨by (with_reducible repeat (first | apply Kd.S_alloc | apply Kd.S_drewN | apply Kd.S_drew)); exact Kd.S_mono HO_38.out (fun _ hk => ⟨hk.2, hk.1.1⟩)⟩, ⟨by repeat (first | exact HB.out | apply bA | apply bN | apply bD)⟩⟩
                  ·rw [if_neg c22] at H
                   exact absurd H (by simp)
                 ·rw [if_neg c21] at H
                  exact absurd H (by simp)
                ·rw [if_neg c20] at H
                 exact absurd H (by simp)
               ·rw [if_neg c19] at H
                exact absurd H (by simp)
              ·rw [if_neg c18] at H
               exact absurd H (by simp)
             ·rw [if_neg c17] at H
              exact absurd H (by simp)
            ·rw [if_neg c16] at H
             have c16b0 : decide (x40_3 < (t239.length : Int)) = false := decide_eq_false c16
             clear c16
             have H' := Aside0.mk H
             clear H
             go_wp2
             go_roundg k3
             case measure => have := HK1.out; have := HK2.out; have := HK3.out; omega
             case rel => exact ⟨(x5_3), (wrap64 (x25_2 + 1)), (by first | rfl | (simp; done) | (simp [*]; done)), H', ⟨by have := HK1.out; have := HK2.out; have := HK3.out; omega⟩, ⟨by (with_reducible repeat (first | apply Kd.S_alloc | apply Kd.S_drewN | apply Kd.S_drew)); exact Kd.S_mono HO_5.out (fun _ hk => hk.1)⟩, ⟨by (with_reducible repeat (first | apply Kd.S_alloc | apply Kd.S_drewN | apply Kd.S_drew)); exact Kd.S_mono HO_23.out (fun _ hk => hk.1)⟩, ⟨by repeat (first | exact HB.out | apply bA | apply bN | apply bD)⟩⟩
         ·rw [if_neg c12] at H
          exact absurd H (by simp)
        ·rw [if_neg c11] at H
         exact absurd H (by simp)
       ·rw [if_neg c10] at H
        have c10b0 : decide (x25_2 < (t235.length : Int)) = false := decide_eq_false c10
        clear c10
        have H' := Aside0.mk H
        clear H
        go_wp2
        go_roundg k2
        case measure => have := HK1.out; have := HK2.out; omega
        case rel => exact ⟨(x5_2), (wrap64 (x6_1 + 1)), (by first | rfl | (simp; done) | (simp [*]; done)), H', ⟨by have := HK1.out; have := HK2.out; omega⟩, ⟨by (with_reducible repeat (first | apply Kd.S_alloc | apply Kd.S_drewN | apply Kd.S_drew)); exact Kd.S_mono HO_5.out (fun _ hk => trivial)⟩, ⟨by repeat (first | exact HB.out | apply bA | apply bN | apply bD)⟩⟩
    ·rw [if_neg c6] at H
     have c6b0 : decide (x6_1 < a0) = false := decide_eq_false c6
     clear c6
     obtain rfl := Option.some.inj H
     go_wp2
     go_ret
     exact ⟨_, by first | rfl | (simp [*, errW_none, errW_some] <;> rfl), by (with_reducible repeat (first | apply Kd.S_alloc | apply Kd.S_drewN | apply Kd.S_drew)); exact HO_5.out, by repeat (first | exact HB.out | apply bA | apply bN | apply bD)⟩

/-! ### spec_SystemWith: function 7 -/
def spec_SystemWith.f (k : Nat) (a0 : Int) (a1 : Int) : Option (List Int × Bool) := (spec_ahArches.f a0).bind fun t258 => (if t258 = true then ((spec_ahCount.f k a0).bind fun t259 => ((spec_l1In.f a1 0 (wrap64 (t259 - 1))).bind fun t260 => (if t260 = true then ((spec_ahAll.f k a0 0).bind fun t261 => (if 0 ≤ a1 then (if a1 < (t261.length : Int) then (some (rd_L2 t261 a1, true)) else (none)) else (none))) else (some (([] : List Int), false))))) else (some (([] : List Int), false)))
theorem spec_SystemWith.mono : ∀ a0 a1 k, LeO (spec_SystemWith.f k a0 a1) (spec_SystemWith.f (k + 1) a0 a1) := by
 intro a0 a1 k
 unfold spec_SystemWith.f
 repeat' first
   | (with_reducible exact spec_ahAll.mono _ _ _)
   | (with_reducible exact spec_ahCount.mono _ _)
   | (with_reducible exact LeO.refl _)
   | (with_reducible exact LeO.none _)
   | (with_reducible refine LeO.ite ?_ ?_)
   | (with_reducible refine LeO.bind ?_ (fun _ => ?_))
   | exact LeO.none _
   | refine LeO.ite ?_ ?_
   | refine LeO.bind ?_ (fun _ => ?_)
theorem spec_SystemWith.calls (k : Nat) (a0 : Int) (a1 : Int) (r1 : List Int) (r2 : Bool) (w : World) (h : spec_SystemWith.f k a0 a1 = some (r1, r2)) :
  Calls Try.prog 7 #[.int .i64 a0, .int .i64 a1] w fun e w' => ∃ v0_ : Value, e = .returned (.tuple #[v0_, .bool r2]) ∧ Kd.R (Kd.int .i64) 3 w' w.heap.size (fun _ => True) v0_ r1 ∧ Below w.heap.size w w' := by
 have HB := Aside0.mk (Below.refl w.heap.size w)
 have H : ((spec_ahArches.f a0).bind fun t258 => (if t258 = true then ((spec_ahCount.f k a0).bind fun t259 => ((spec_l1In.f a1 0 (wrap64 (t259 - 1))).bind fun t260 => (if t260 = true then ((spec_ahAll.f k a0 0).bind fun t261 => (if 0 ≤ a1 then (if a1 < (t261.length : Int) then (some (rd_L2 t261 a1, true)) else (none)) else (none))) else (some (([] : List Int), false))))) else (some (([] : List Int), false)))) = some (r1, r2) := h
 clear h
 replace H := Option.bind_eq_some_iff.mp H
 obtain ⟨t258, A30, H⟩ := H
 replace H : (if t258 = true then ((spec_ahCount.f k a0).bind fun t259 => ((spec_l1In.f a1 0 (wrap64 (t259 - 1))).bind fun t260 => (if t260 = true then ((spec_ahAll.f k a0 0).bind fun t261 => (if 0 ≤ a1 then (if a1 < (t261.length : Int) then (some (rd_L2 t261 a1, true)) else (none)) else (none))) else (some (([] : List Int), false))))) else (some (([] : List Int), false))) = some (r1, r2) := H
 have A3 := Aside0.mk A30
 clear A30
 by_cases c4 : t258 = true
 ·subst c4
  have H1 : ((spec_ahCount.f k a0).bind fun t259 => ((spec_l1In.f a1 0 (wrap64 (t259 - 1))).bind fun t260 => (if t260 = true then ((spec_ahAll.f k a0 0).bind fun t261 => (if 0 ≤ a1 then (if a1 < (t261.length : Int) then (some (rd_L2 t261 a1, true)) else (none)) else (none))) else (some (([] : List Int), false))))) = some (r1, r2) := by rw [if_pos rfl] at H; exact H
  clear H
  have H := H1
  clear H1
  replace H := Option.bind_eq_some_iff.mp H
  obtain ⟨t259, A50, H⟩ := H
  replace H : ((spec_l1In.f a1 0 (wrap64 (t259 - 1))).bind fun t260 => (if t260 = true then ((spec_ahAll.f k a0 0).bind fun t261 => (if 0 ≤ a1 then (if a1 < (t261.length : Int) then (some (rd_L2 t261 a1, true)) else (none)) else (none))) else (some (([] : List Int), false)))) = some (r1, r2) := H
  have A5 := Aside0.mk A50
  clear A50
  replace H := Option.bind_eq_some_iff.mp H
  obtain ⟨t260, A60, H⟩ := H
  replace H : (if t260 = true then ((spec_ahAll.f k a0 0).bind fun t261 => (if 0 ≤ a1 then (if a1 < (t261.length : Int) then (some (rd_L2 t261 a1, true)) else (none)) else (none))) else (some (([] : List Int), false))) = some (r1, r2) := H
  have A6 := Aside0.mk A60
  clear A60
  by_cases c7 : t260 = true
  ·subst c7
   have H1 : ((spec_ahAll.f k a0 0).bind fun t261 => (if 0 ≤ a1 then (if a1 < (t261.length : Int) then (some (rd_L2 t261 a1, true)) else (none)) else (none))) = some (r1, r2) := by rw [if_pos rfl] at H; exact H
   clear H
   have H := H1
   clear H1
   replace H := Option.bind_eq_some_iff.mp H
   obtain ⟨t261, A80, H⟩ := H
   replace H : (if 0 ≤ a1 then (if a1 < (t261.length : Int) then (some (rd_L2 t261 a1, true)) else (none)) else (none)) = some (r1, r2) := H
   have A8 := Aside0.mk A80
   clear A80
   by_cases c9 : 0 ≤ a1
   ·rw [if_pos c9] at H
    have c9b0 : decide (0 ≤ a1) = true := decide_eq_true c9
    clear c9
    by_cases c10 : a1 < (t261.length : Int)
    ·rw [if_pos c10] at H
     have c10b0 : decide (a1 < (t261.length : Int)) = true := decide_eq_true c10
     clear c10
     simp only [Option.some.injEq, Prod.mk.injEq] at H
     obtain ⟨rfl, rfl⟩ := H
     go_enter Try.func7, Try.ntmps7
     go_wp2_with (first | ((with_reducible refine gate_callee (f := 26) rfl ?_); refine goesL_ (some 7) rfl rfl Try.func26 (by kernel_rfl) rfl #[.int .i64 a0] rfl (by (try simp only [List.map_toArray, List.map_cons, List.map_nil]); first | done | rfl) ?_; (with_reducible refine (spec_ahArches.calls a0 true _ A3.out).mono ?_); rintro e w' ⟨rfl, ⟨nd, rfl⟩⟩; refine ⟨_, rfl, ?_⟩) | (go_at_call 30; (with_reducible refine (spec_ahCount.calls k a0 t259 _ A5.out).mono ?_); rintro e w' ⟨rfl, ⟨nd, rfl⟩⟩) | (go_at_call 34; (with_reducible refine (spec_l1In.calls a1 0 (wrap64 (t259 - 1)) true _ A6.out).mono ?_); rintro e w' ⟨rfl, ⟨nd, rfl⟩⟩) | ((with_reducible refine gate_callee (f := 35) rfl ?_); refine goesL_ (some 18) rfl rfl Try.func35 (by kernel_rfl) rfl #[.int .i64 a0, .int .i64 0] rfl (by (try simp only [List.map_toArray, List.map_cons, List.map_nil]); first | done | rfl) ?_; (with_reducible refine (spec_ahAll.calls k a0 0 t261 _ A8.out).mono ?_); rintro e w11 ⟨v262, rfl, ho0, hb⟩; refine ⟨_, rfl, ?_⟩; have HO263 := Aside0.mk (Kd.S_lower ho0 (below_size (by repeat (first | exact HB.out | apply bA | apply bN | apply bD)))); replace HB := Aside0.mk (below_step (by repeat (first | exact HB.out | apply bA | apply bN | apply bD)) hb); (try clear hb2); (try clear hb hk hi); (try clear ho0); obtain ⟨Ao12, co12, eo12⟩ := Kd.S_slice HO263.out; subst eo12; have p264 : 0 ≤ (a1 : Int) := of_decide_eq_true (by assumption); have q264 : a1 < (t261.length : Int) := of_decide_eq_true (by assumption); obtain ⟨ad264, A264_0, c264_0, e264, hx264_0, hl264_0, hi264_0⟩ := at_L2 (Kd.S_reads' HO263.out).2.2 a1 p264 q264; cases e264; obtain ⟨ce264, hce264, hMe264, hcc264⟩ := Kd.S_get HO263.out [] a1 p264 (by first | exact q264 | exact of_decide_eq_true (by assumption) | (have e_ := (Kd.S_reads' HO263.out).1; omega)); obtain ⟨ve264_0, rfl, ge264_0⟩ := hMe264; have hv264_0 := hcc264 0 _ rfl; rw [Nat.add_zero, show ((Kd.slice 3 (Kd.int .i64))).sz = 1 from rfl, Nat.mul_one] at hv264_0; replace hv264_0 := Option.some.inj (hv264_0.symm.trans hx264_0); rw [hv264_0] at ge264_0; have HL264_0 := Aside0.mk (show Kd.R (Kd.int .i64) 3 _ _ _ _ (rd_L2 t261 a1) from ge264_0); clear hv264_0 ge264_0; clear hcc264 hce264; have HR264_0 := Aside0.mk hi264_0; have HC264_0 := Aside0.mk hl264_0; clear hi264_0 hl264_0; replace p264 := eq_true p264; replace q264 := eq_true q264))
     go_ret2
     exact ⟨_, by first | rfl | (simp [*, errW_none, errW_some] <;> rfl), by (with_reducible repeat (first | apply rA | apply rN | apply rD)); exact Kd.R_mono HL264_0.out (fun _ hk => trivial), by repeat (first | exact HB.out | apply bA | apply bN | apply bD)⟩
    ·rw [if_neg c10] at H
     exact absurd H (by simp)
   ·rw [if_neg c9] at H
    exact absurd H (by simp)
  ·replace c7 := Bool.eq_false_iff.mpr c7
   subst c7
   have H1 : (some (([] : List Int), false)) = some (r1, r2) := by rw [if_neg (show ¬ (false = true) by decide)] at H; exact H
   clear H
   have H := H1
   clear H1
   simp only [Option.some.injEq, Prod.mk.injEq] at H
   obtain ⟨rfl, rfl⟩ := H
   go_enter Try.func7, Try.ntmps7
   go_wp2_with (first | ((with_reducible refine gate_callee (f := 26) rfl ?_); refine goesL_ (some 7) rfl rfl Try.func26 (by kernel_rfl) rfl #[.int .i64 a0] rfl (by (try simp only [List.map_toArray, List.map_cons, List.map_nil]); first | done | rfl) ?_; (with_reducible refine (spec_ahArches.calls a0 true _ A3.out).mono ?_); rintro e w' ⟨rfl, ⟨nd, rfl⟩⟩; refine ⟨_, rfl, ?_⟩) | (go_at_call 30; (with_reducible refine (spec_ahCount.calls k a0 t259 _ A5.out).mono ?_); rintro e w' ⟨rfl, ⟨nd, rfl⟩⟩) | (go_at_call 34; (with_reducible refine (spec_l1In.calls a1 0 (wrap64 (t259 - 1)) false _ A6.out).mono ?_); rintro e w' ⟨rfl, ⟨nd, rfl⟩⟩))
   go_ret2
   exact ⟨_, by first | rfl | (simp [*, errW_none, errW_some] <;> rfl), by first | exact Kd.R_nil _ _ _ _ _ | exact Kd.N_nil _ _ _ _ _ | exact Kd.V_nil _ _ _ _ _ | exact Kd.Q_nil _ _ _ _ _ | exact Kd.S_nil _ _ _ _ _, by repeat (first | exact HB.out | apply bA | apply bN | apply bD)⟩
 ·replace c4 := Bool.eq_false_iff.mpr c4
  subst c4
  have H1 : (some (([] : List Int), false)) = some (r1, r2) := by rw [if_neg (show ¬ (false = true) by decide)] at H; exact H
  clear H
  have H := H1
  clear H1
  simp only [Option.some.injEq, Prod.mk.injEq] at H
  obtain ⟨rfl, rfl⟩ := H
  go_enter Try.func7, Try.ntmps7
  go_wp2_with (first | ((with_reducible refine gate_callee (f := 26) rfl ?_); refine goesL_ (some 7) rfl rfl Try.func26 (by kernel_rfl) rfl #[.int .i64 a0] rfl (by (try simp only [List.map_toArray, List.map_cons, List.map_nil]); first | done | rfl) ?_; (with_reducible refine (spec_ahArches.calls a0 false _ A3.out).mono ?_); rintro e w' ⟨rfl, ⟨nd, rfl⟩⟩; refine ⟨_, rfl, ?_⟩))
  go_ret2
  exact ⟨_, by first | rfl | (simp [*, errW_none, errW_some] <;> rfl), by first | exact Kd.R_nil _ _ _ _ _ | exact Kd.N_nil _ _ _ _ _ | exact Kd.V_nil _ _ _ _ _ | exact Kd.Q_nil _ _ _ _ _ | exact Kd.S_nil _ _ _ _ _, by repeat (first | exact HB.out | apply bA | apply bN | apply bD)⟩

/-! ### impl_CountSystems: function 8 -/
def impl_CountSystems.f (k : Nat) (a0 : Int) : Option (Int × Bool) := (impl_isArches.f a0).bind fun t265 => (if t265 = true then ((impl_systems.f k a0).bind fun t266 => (some ((t266.length : Int), true))) else (some (0, false)))
theorem impl_CountSystems.mono : ∀ a0 k, LeO (impl_CountSystems.f k a0) (impl_CountSystems.f (k + 1) a0) := by
 intro a0 k
 unfold impl_CountSystems.f
 repeat' first
   | (with_reducible exact impl_systems.mono _ _)
   | (with_reducible exact LeO.refl _)
   | (with_reducible exact LeO.none _)
   | (with_reducible refine LeO.ite ?_ ?_)
   | (with_reducible refine LeO.bind ?_ (fun _ => ?_))
   | exact LeO.none _
   | refine LeO.ite ?_ ?_
   | refine LeO.bind ?_ (fun _ => ?_)
theorem impl_CountSystems.calls (k : Nat) (a0 : Int) (r1 : Int) (r2 : Bool) (w : World) (h : impl_CountSystems.f k a0 = some (r1, r2)) :
  Calls Try.prog 8 #[.int .i64 a0] w fun e w' => e = .returned (.tuple #[.int .i64 r1, .bool r2]) ∧ Below w.heap.size w w' := by
 have HB := Aside0.mk (Below.refl w.heap.size w)
 have H : ((impl_isArches.f a0).bind fun t265 => (if t265 = true then ((impl_systems.f k a0).bind fun t266 => (some ((t266.length : Int), true))) else (some (0, false)))) = some (r1, r2) := h
 clear h
 replace H := Option.bind_eq_some_iff.mp H
 obtain ⟨t265, A20, H⟩ := H
 replace H : (if t265 = true then ((impl_systems.f k a0).bind fun t266 => (some ((t266.length : Int), true))) else (some (0, false))) = some (r1, r2) := H
 have A2 := Aside0.mk A20
 clear A20
 by_cases c3 : t265 = true
 ·subst c3
  have H1 : ((impl_systems.f k a0).bind fun t266 => (some ((t266.length : Int), true))) = some (r1, r2) := by rw [if_pos rfl] at H; exact H
  clear H
  have H := H1
  clear H1
  replace H := Option.bind_eq_some_iff.mp H
  obtain ⟨t266, A40, H⟩ := H
  replace H : (some ((t266.length : Int), true)) = some (r1, r2) := H
  have A4 := Aside0.mk A40
  clear A40
  simp only [Option.some.injEq, Prod.mk.injEq] at H
  obtain ⟨rfl, rfl⟩ := H
  go_enter Try.func8, Try.ntmps8
  go_wp2_with (first | ((with_reducible refine gate_callee (f := 31) rfl ?_); refine goesL_ (some 5) rfl rfl Try.func31 (by kernel_rfl) rfl #[.int .i64 a0] rfl (by (try simp only [List.map_toArray, List.map_cons, List.map_nil]); first | done | rfl) ?_; (with_reducible refine (impl_isArches.calls a0 true _ A2.out).mono ?_); rintro e w' ⟨rfl, ⟨nd, rfl⟩⟩; refine ⟨_, rfl, ?_⟩) | ((with_reducible refine gate_callee (f := 32) rfl ?_); refine goesL_ (some 8) rfl rfl Try.func32 (by kernel_rfl) rfl #[.int .i64 a0] rfl (by (try simp only [List.map_toArray, List.map_cons, List.map_nil]); first | done | rfl) ?_; (with_reducible refine (impl_systems.calls k a0 t266 _ A4.out).mono ?_); rintro e w5 ⟨v267, rfl, ho0, hb⟩; refine ⟨_, rfl, ?_⟩; have HO268 := Aside0.mk (Kd.S_lower ho0 (below_size (by repeat (first | exact HB.out | apply bA | apply bN | apply bD)))); replace HB := Aside0.mk (below_step (by repeat (first | exact HB.out | apply bA | apply bN | apply bD)) hb); (try clear hb2); (try clear hb hk hi); (try clear ho0); obtain ⟨Ao6, co6, eo6⟩ := Kd.S_slice HO268.out; subst eo6))
  go_ret2
  exact ⟨by first | rfl | (simp [*, errW_none, errW_some] <;> rfl), by repeat (first | exact HB.out | apply bA | apply bN | apply bD)⟩
 ·replace c3 := Bool.eq_false_iff.mpr c3
  subst c3
  have H1 : (some (0, false)) = some (r1, r2) := by rw [if_neg (show ¬ (false = true) by decide)] at H; exact H
  clear H
  have H := H1
  clear H1
  simp only [Option.some.injEq, Prod.mk.injEq] at H
  obtain ⟨rfl, rfl⟩ := H
  go_enter Try.func8, Try.ntmps8
  go_wp2_with (first | ((with_reducible refine gate_callee (f := 31) rfl ?_); refine goesL_ (some 5) rfl rfl Try.func31 (by kernel_rfl) rfl #[.int .i64 a0] rfl (by (try simp only [List.map_toArray, List.map_cons, List.map_nil]); first | done | rfl) ?_; (with_reducible refine (impl_isArches.calls a0 false _ A2.out).mono ?_); rintro e w' ⟨rfl, ⟨nd, rfl⟩⟩; refine ⟨_, rfl, ?_⟩))
  go_ret2
  exact ⟨by first | rfl | (simp [*, errW_none, errW_some] <;> rfl), by repeat (first | exact HB.out | apply bA | apply bN | apply bD)⟩

/-! ### spec_CountSystems: function 9 -/
def spec_CountSystems.f (k : Nat) (a0 : Int) : Option (Int × Bool) := (spec_ahArches.f a0).bind fun t269 => (if t269 = true then ((spec_ahCount.f k a0).bind fun t270 => (some (t270, true))) else (some (0, false)))
theorem spec_CountSystems.mono : ∀ a0 k, LeO (spec_CountSystems.f k a0) (spec_CountSystems.f (k + 1) a0) := by
 intro a0 k
 unfold spec_CountSystems.f
 repeat' first
   | (with_reducible exact spec_ahCount.mono _ _)
   | (with_reducible exact LeO.refl _)
   | (with_reducible exact LeO.none _)
   | (with_reducible refine LeO.ite ?_ ?_)
   | (with_reducible refine LeO.bind ?_ (fun _ => ?_))
   | exact LeO.none _
   | refine LeO.ite ?_ ?_
   | refine LeO.bind ?_ (fun _ => ?_)
theorem spec_CountSystems.calls (k : Nat) (a0 : Int) (r1 : Int) (r2 : Bool) (w : World) (h : spec_CountSystems.f k a0 = some (r1, r2)) :
  Calls Try.prog 9 #[.int .i64 a0] w fun e w' => e = .returned (.tuple #[.int .i64 r1, .bool r2]) ∧ Drawn0 w w' := by
 have H : ((spec_ahArches.f a0).bind fun t269 => (if t269 = true then ((spec_ahCount.f k a0).bind fun t270 => (some (t270, true))) else (some (0, false)))) = some (r1, r2) := h
 clear h
 replace H := Option.bind_eq_some_iff.mp H
 obtain ⟨t269, A20, H⟩ := H
 replace H : (if t269 = true then ((spec_ahCount.f k a0).bind fun t270 => (some (t270, true))) else (some (0, false))) = some (r1, r2) := H
 have A2 := Aside0.mk A20
 clear A20
 by_cases c3 : t269 = true
 ·subst c3
  have H1 : ((spec_ahCount.f k a0).bind fun t270 => (some (t270, true))) = some (r1, r2) := by rw [if_pos rfl] at H; exact H
  clear H
  have H := H1
  clear H1
  replace H := Option.bind_eq_some_iff.mp H
  obtain ⟨t270, A40, H⟩ := H
  replace H : (some (t270, true)) = some (r1, r2) := H
  have A4 := Aside0.mk A40
  clear A40
  simp only [Option.some.injEq, Prod.mk.injEq] at H
  obtain ⟨rfl, rfl⟩ := H
  go_enter Try.func9, Try.ntmps9
  go_wp2_with (first | ((with_reducible refine gate_callee (f := 26) rfl ?_); refine goesL_ (some 5) rfl rfl Try.func26 (by kernel_rfl) rfl #[.int .i64 a0] rfl (by (try simp only [List.map_toArray, List.map_cons, List.map_nil]); first | done | rfl) ?_; (with_reducible refine (spec_ahArches.calls a0 true _ A2.out).mono ?_); rintro e w' ⟨rfl, ⟨nd, rfl⟩⟩; refine ⟨_, rfl, ?_⟩) | ((with_reducible refine gate_callee (f := 30) rfl ?_); refine goesL_ (some 8) rfl rfl Try.func30 (by kernel_rfl) rfl #[.int .i64 a0] rfl (by (try simp only [List.map_toArray, List.map_cons, List.map_nil]); first | done | rfl) ?_; (with_reducible refine (spec_ahCount.calls k a0 t270 _ A4.out).mono ?_); rintro e w' ⟨rfl, ⟨nd, rfl⟩⟩; refine ⟨_, rfl, ?_⟩))
  go_ret2
  exact ⟨by first | rfl | (simp; done) | (simp [*]; done), by repeat (first | exact Drawn0.refl _ | apply Drawn0.step)⟩
 ·replace c3 := Bool.eq_false_iff.mpr c3
  subst c3
  have H1 : (some (0, false)) = some (r1, r2) := by rw [if_neg (show ¬ (false = true) by decide)] at H; exact H
  clear H
  have H := H1
  clear H1
  simp only [Option.some.injEq, Prod.mk.injEq] at H
  obtain ⟨rfl, rfl⟩ := H
  go_enter Try.func9, Try.ntmps9
  go_wp2_with (first | ((with_reducible refine gate_callee (f := 26) rfl ?_); refine goesL_ (some 5) rfl rfl Try.func26 (by kernel_rfl) rfl #[.int .i64 a0] rfl (by (try simp only [List.map_toArray, List.map_cons, List.map_nil]); first | done | rfl) ?_; (with_reducible refine (spec_ahArches.calls a0 false _ A2.out).mono ?_); rintro e w' ⟨rfl, ⟨nd, rfl⟩⟩; refine ⟨_, rfl, ?_⟩))
  go_ret2
  exact ⟨by first | rfl | (simp; done) | (simp [*]; done), by repeat (first | exact Drawn0.refl _ | apply Drawn0.step)⟩

/-! ### laws_sSame: function 10 -/
def laws_sSame.l0 : Nat → List Int → List Int → Int → Int → Option (Bool)
 | 0, _, _, _, _ => none
 | k + 1, x0, x1, x12, x13 => if x13 < x12 then (if 0 ≤ x13 then (if x13 < (x0.length : Int) then (if x13 < (x1.length : Int) then (if (rd x0 x13) = (rd x1 x13) then (laws_sSame.l0 k x0 x1 x12 (wrap64 (x13 + 1))) else (some false)) else (none)) else (none)) else (none)) else (some true)
def laws_sSame.f (k : Nat) (l0 : List Int) (l1 : List Int) : Option (Bool) := if (l0.length : Int) = (l1.length : Int) then (laws_sSame.l0 k l0 l1 (l0.length : Int) 0) else (some false)
theorem laws_sSame.mono_l : ∀ k, (∀ y0 y1 y2 y3, LeO (laws_sSame.l0 k y0 y1 y2 y3) (laws_sSame.l0 (k + 1) y0 y1 y2 y3))
 | 0 => fun _ _ _ _ r h => by simp [laws_sSame.l0] at h
 | k + 1 => by
  have ih0 := laws_sSame.mono_l k
  ·intro y0 y1 y2 y3
   unfold laws_sSame.l0
   repeat' first
   | (with_reducible exact ih0 _ _ _ _)
   | (with_reducible exact LeO.refl _)
   | (with_reducible exact LeO.none _)
   | (with_reducible refine LeO.ite ?_ ?_)
   | (with_reducible refine LeO.bind ?_ (fun _ => ?_))
   | exact LeO.none _
   | refine LeO.ite ?_ ?_
   | refine LeO.bind ?_ (fun _ => ?_)
theorem laws_sSame.mono : ∀ a0 a1 k, LeO (laws_sSame.f k a0 a1) (laws_sSame.f (k + 1) a0 a1) := by
 intro a0 a1 k
 have ih0 := laws_sSame.mono_l k
 unfold laws_sSame.f
 repeat' first
   | (with_reducible exact ih0 _ _ _ _)
   | (with_reducible exact LeO.refl _)
   | (with_reducible exact LeO.none _)
   | (with_reducible refine LeO.ite ?_ ?_)
   | (with_reducible refine LeO.bind ?_ (fun _ => ?_))
   | exact LeO.none _
   | refine LeO.ite ?_ ?_
   | refine LeO.bind ?_ (fun _ => ?_)
theorem laws_sSame.calls (k : Nat) (A0 : Option Addr) (c0 : Nat) (l0 : List Int) (A1 : Option Addr) (c1 : Nat) (l1 : List Int) (r : Bool) (w : World) (hr0 : Kd.C (Kd.int .i64) w A0 l0.length l0) (hc0 : l0.length ≤ c0) (hr1 : Kd.C (Kd.int .i64) w A1 l1.length l1) (hc1 : l1.length ≤ c1) (h : laws_sSame.f k l0 l1 = some r) :
  Calls Try.prog 10 #[.slice A0 l0.length c0, .slice A1 l1.length c1] w fun e w' => e = .returned (.bool r) ∧ Drawn0 w w' := by
 have HR0 := Aside0.mk hr0
 have HC0 := Aside0.mk hc0
 clear hr0 hc0
 have HR1 := Aside0.mk hr1
 have HC1 := Aside0.mk hc1
 clear hr1 hc1
 have H : (if (l0.length : Int) = (l1.length : Int) then (laws_sSame.l0 k l0 l1 (l0.length : Int) 0) else (some false)) = some r := h
 clear h
 by_cases c3 : (l0.length : Int) = (l1.length : Int)
 ·rw [if_pos c3] at H
  have c3b0 : ((l0.length : Int) == (l1.length : Int)) = true := beq_iff_eq.mpr c3
  have c3b1 : ((l0.length : Int) != (l1.length : Int)) = false := bne_eq_false_iff_eq.mpr c3
  have c3b2 : (l0.length == l1.length) = true := by first | simpa using c3 | (simp at c3 ⊢; omega)
  clear c3
  have H' := Aside0.mk H
  clear H
  go_enter Try.func10, Try.ntmps10
  go_wp2
  repeat (go_quiet (fail); try go_wp2)
  go_loopg [13] k (fun kq v13 w' => ∃ (x13_1 : Int), v13 = .int .i64 x13_1 ∧ Aside0 (laws_sSame.l0 kq l0 l1 (l0.length : Int) x13_1 = some r) ∧ Aside0 (kq ≤ k) ∧ Drawn0 w w')
  case atStart => exact ⟨(0), (by first | rfl | (simp; done) | (simp [*]; done)), H', ⟨Nat.le_refl _⟩, by repeat (first | exact Drawn0.refl _ | apply Drawn0.step)⟩
  case round =>
   clear H'
   try clear p2
   obtain ⟨x13_1, rfl, HA, HK1, ⟨m1, rfl⟩⟩ := hrel
   cases gk with
   | zero => exact absurd HA.out (by simp [laws_sSame.l0])
   | succ k1 =>
    have H := HA.out
    clear HA
    simp only [laws_sSame.l0] at H
    by_cases c4 : x13_1 < (l0.length : Int)
    ·rw [if_pos c4] at H
     have c4b0 : decide (x13_1 < (l0.length : Int)) = true := decide_eq_true c4
     clear c4
     by_cases c5 : 0 ≤ x13_1
     ·rw [if_pos c5] at H
      have c5b0 : decide (0 ≤ x13_1) = true := decide_eq_true c5
      clear c5
      by_cases c6 : x13_1 < (l0.length : Int)
      ·rw [if_pos c6] at H
       have c6b0 : decide (x13_1 < (l0.length : Int)) = true := decide_eq_true c6
       clear c6
       by_cases c7 : x13_1 < (l1.length : Int)
       ·rw [if_pos c7] at H
        have c7b0 : decide (x13_1 < (l1.length : Int)) = true := decide_eq_true c7
        clear c7
        by_cases c8 : (rd l0 x13_1) = (rd l1 x13_1)
        ·rw [if_pos c8] at H
         have c8b0 : ((rd l0 x13_1) == (rd l1 x13_1)) = true := beq_iff_eq.mpr c8
         have c8b1 : ((rd l0 x13_1) != (rd l1 x13_1)) = false := bne_eq_false_iff_eq.mpr c8
         clear c8
         have H' := Aside0.mk H
         clear H
         have p271 : 0 ≤ (x13_1 : Int) := of_decide_eq_true (by assumption)
         have q271 : x13_1 < (l0.length : Int) := of_decide_eq_true (by assumption)
         obtain ⟨ad271, e271, hx271_0⟩ := Kd.at_int HR0.out x13_1 p271 q271
         cases e271
         replace p271 := eq_true p271
         replace q271 := eq_true q271
         have p272 : 0 ≤ (x13_1 : Int) := of_decide_eq_true (by assumption)
         have q272 : x13_1 < (l1.length : Int) := of_decide_eq_true (by assumption)
         obtain ⟨ad272, e272, hx272_0⟩ := Kd.at_int HR1.out x13_1 p272 q272
         cases e272
         replace p272 := eq_true p272
         replace q272 := eq_true q272
         go_wp2
         repeat (go_quiet (fail); try go_wp2)
         go_roundg k1
         case measure => have := HK1.out; omega
         case rel => exact ⟨(wrap64 (x13_1 + 1)), (by first | rfl | (simp; done) | (simp [*]; done)), H', ⟨by have := HK1.out; omega⟩, by repeat (first | exact Drawn0.refl _ | apply Drawn0.step)⟩
        ·rw [if_neg c8] at H
         have c8b0 : ((rd l0 x13_1) == (rd l1 x13_1)) = false := beq_eq_false_iff_ne.mpr c8
         have c8b1 : ((rd l0 x13_1) != (rd l1 x13_1)) = true := bne_iff_ne.mpr c8
         obtain rfl := Option.some.inj H
         have p271 : 0 ≤ (x13_1 : Int) := of_decide_eq_true (by assumption)
         have q271 : x13_1 < (l0.length : Int) := of_decide_eq_true (by assumption)
         obtain ⟨ad271, e271, hx271_0⟩ := Kd.at_int HR0.out x13_1 p271 q271
         cases e271
         replace p271 := eq_true p271
         replace q271 := eq_true q271
         have p272 : 0 ≤ (x13_1 : Int) := of_decide_eq_true (by assumption)
         have q272 : x13_1 < (l1.length : Int) := of_decide_eq_true (by assumption)
         obtain ⟨ad272, e272, hx272_0⟩ := Kd.at_int HR1.out x13_1 p272 q272
         cases e272
         replace p272 := eq_true p272
         replace q272 := eq_true q272
         go_wp2
         repeat (go_quiet (fail); try go_wp2)
         go_ret
         exact ⟨by first | rfl | (simp; done) | (simp [*]; done), by repeat (first | exact Drawn0.refl _ | apply Drawn0.step)⟩
       ·rw [if_neg c7] at H
        exact absurd H (by simp)
      ·rw [if_neg c6] at H
       exact absurd H (by simp)
     ·rw [if_neg c5] at H
      exact absurd H (by simp)
    ·rw [if_neg c4] at H
     have c4b0 : decide (x13_1 < (l0.length : Int)) = false := decide_eq_false c4
     clear c4
     obtain rfl := Option.some.inj H
     go_wp2
     repeat (go_quiet (fail); try go_wp2)
     go_ret
     exact ⟨by first | rfl | (simp; done) | (simp [*]; done), by repeat (first | exact Drawn0.refl _ | apply Drawn0.step)⟩
 ·rw [if_neg c3] at H
  have c3b0 : ((l0.length : Int) == (l1.length : Int)) = false := beq_eq_false_iff_ne.mpr c3
  have c3b1 : ((l0.length : Int) != (l1.length : Int)) = true := bne_iff_ne.mpr c3
  have c3b2 : (l0.length == l1.length) = false := by first | simpa using c3 | (simp at c3 ⊢; omega)
  obtain rfl := Option.some.inj H
  go_enter Try.func10, Try.ntmps10
  go_wp2
  repeat (go_quiet (fail); try go_wp2)
  go_ret
  exact ⟨by first | rfl | (simp; done) | (simp [*]; done), by repeat (first | exact Drawn0.refl _ | apply Drawn0.step)⟩

/-! ### spec_DrawAllSystems: function 11 (by hand) -/
/-! ### spec_DrawAllSystems_m: function 11 -/
def spec_DrawAllSystems_m.f (s0_0 : List Int) (s0_1 : Int) (s0_2 : Int) : Option (Int × Int × Int) := (spec_l1Cur_arches.f s0_0 s0_1 s0_2 6).bind fun bt273 => (some (bt273.1, bt273.2.1, bt273.2.2))
def spec_DrawAllSystems.f (l0 : List Int) : Option (Int) := (spec_DrawAllSystems_m.f l0 0 0).bind fun t => some (t.1)
theorem spec_DrawAllSystems.calls (A0 : Option Addr) (c0 : Nat) (s0_0 : List Int) (z_r1 : Int) (w : World) (hr0 : Kd.C (Kd.int .u8) w A0 s0_0.length s0_0) (hc0 : s0_0.length ≤ c0) (h : spec_DrawAllSystems.f s0_0 = some (z_r1)) :
  Calls Try.prog 11 #[.slice A0 s0_0.length c0] w fun e w' => e = .returned (.int .i64 z_r1) ∧ Below w.heap.size w w' := by
 unfold spec_DrawAllSystems.f at h
 obtain ⟨⟨r1, r2, r3⟩, hm_, hx⟩ := Option.bind_eq_some_iff.mp h
 clear h
 simp only [Option.some.injEq, Prod.mk.injEq] at hx
 obtain rfl := hx
 have h := hm_
 clear hm_
 go_enter Try.func11, Try.ntmps11
 go_upto_region 2 with (fail)
 have HBX : Below w.heap.size w (w.alloc (.cells #[.slice A0 s0_0.length c0, .int .i64 0, .int .u64 0] 48)) := below_alloc (Below.refl _ _) _
 have HIX : IsS48 w (w.alloc (.cells #[.slice A0 s0_0.length c0, .int .i64 0, .int .u64 0] 48)) w.heap.size s0_0 0 0 := ⟨A0, c0, (by first | (simp [World.alloc]; done) | exact Array.getElem?_push_size), Nat.le_refl _, hr0⟩
 have HSX : w.heap.size + 1 ≤ (w.alloc (.cells #[.slice A0 s0_0.length c0, .int .i64 0, .int .u64 0] 48)).heap.size := by simp
 generalize (w.alloc (.cells #[.slice A0 s0_0.length c0, .int .i64 0, .int .u64 0] 48)) = wb at HBX HIX HSX ⊢
 have HI0 := Aside0.mk HIX
 have HK := Aside0.mk (KeepBut.refl wb w.heap.size none)
 have HL := Aside0.mk HBX.size
 have HW0 := Aside0.mk HBX.size
 have HBXS : Aside0 (w.heap.size ≤ wb.heap.size) := ⟨HBX.size⟩
 have HB := Aside0.mk HBX
 clear HBX HIX
 have H : ((spec_l1Cur_arches.f s0_0 0 0 6).bind fun bt273 => (some (bt273.1, bt273.2.1, bt273.2.2))) = some (r1, r2, r3) := h
 clear h
 replace H := Option.bind_eq_some_iff.mp H
 obtain ⟨⟨t273, t274, t275⟩, A20, H⟩ := H
 replace H : (some (t273, t274, t275)) = some (r1, r2, r3) := H
 have A2 := Aside0.mk A20
 clear A20
 simp only [Option.some.injEq, Prod.mk.injEq] at H
 obtain ⟨rfl, rfl, rfl⟩ := H
 go_wp2_with (first | ((with_reducible refine gate_callee (f := 25) rfl ?_); refine goesL_ (some 8) rfl rfl Try.func25 (by kernel_rfl) rfl #[.pointer (some ⟨w.heap.size, 0, none⟩), .int .i64 6] rfl (by (try simp only [List.map_toArray, List.map_cons, List.map_nil]); first | done | rfl) ?_; (with_reducible refine (spec_l1Cur_arches.calls w.heap.size s0_0 0 0 6 t273 t274 t275 w _ ?side1 ?side2 A2.out).mono ?_); (case side1 => repeat (first | exact HI0.out | apply iA | apply iN | apply iD | apply i1 | apply i2)); (case side2 => repeat (first | exact HB.out | apply bA | apply bN | apply bD | refine below_set ?_ (iG HI0.out))); rintro e w3 ⟨rfl, hi, hb, hk⟩; refine ⟨_, rfl, ?_⟩; replace HK := Aside0.mk (KeepBut.trans (by repeat (first | exact HK.out | apply kS | apply kN | apply kD | apply kA)) hk (.inl rfl)); replace HB := Aside0.mk (hb); replace HI0 := Aside0.mk (hi); (try clear hb2); (try clear hb hk hi)))
 go_ret
 exact ⟨by first | rfl | (simp [*, errW_none, errW_some] <;> rfl), by repeat (first | exact HB.out | apply bA | apply bN | apply bD | refine below_set ?_ (iG HI0.out))⟩

/-! ### impl_AllSystems: function 12 -/
def impl_AllSystems.f (k : Nat) (a0 : Int) : Option ((List (List Int)) × Bool) := (impl_isArches.f a0).bind fun t276 => (if t276 = true then ((impl_systems.f k a0).bind fun t277 => (some (t277, true))) else (some (([] : List (List Int)), false)))
theorem impl_AllSystems.mono : ∀ a0 k, LeO (impl_AllSystems.f k a0) (impl_AllSystems.f (k + 1) a0) := by
 intro a0 k
 unfold impl_AllSystems.f
 repeat' first
   | (with_reducible exact impl_systems.mono _ _)
   | (with_reducible exact LeO.refl _)
   | (with_reducible exact LeO.none _)
   | (with_reducible refine LeO.ite ?_ ?_)
   | (with_reducible refine LeO.bind ?_ (fun _ => ?_))
   | exact LeO.none _
   | refine LeO.ite ?_ ?_
   | refine LeO.bind ?_ (fun _ => ?_)
theorem impl_AllSystems.calls (k : Nat) (a0 : Int) (r1 : List (List Int)) (r2 : Bool) (w : World) (h : impl_AllSystems.f k a0 = some (r1, r2)) :
  Calls Try.prog 12 #[.int .i64 a0] w fun e w' => ∃ v0_ : Value, e = .returned (.tuple #[v0_, .bool r2]) ∧ Kd.S (Kd.slice 3 (Kd.int .i64)) 26 w' w.heap.size (fun _ => True) v0_ r1 ∧ Below w.heap.size w w' := by
 have HB := Aside0.mk (Below.refl w.heap.size w)
 have H : ((impl_isArches.f a0).bind fun t276 => (if t276 = true then ((impl_systems.f k a0).bind fun t277 => (some (t277, true))) else (some (([] : List (List Int)), false)))) = some (r1, r2) := h
 clear h
 replace H := Option.bind_eq_some_iff.mp H
 obtain ⟨t276, A20, H⟩ := H
 replace H : (if t276 = true then ((impl_systems.f k a0).bind fun t277 => (some (t277, true))) else (some (([] : List (List Int)), false))) = some (r1, r2) := H
 have A2 := Aside0.mk A20
 clear A20
 by_cases c3 : t276 = true
 ·subst c3
  have H1 : ((impl_systems.f k a0).bind fun t277 => (some (t277, true))) = some (r1, r2) := by rw [if_pos rfl] at H; exact H
  clear H
  have H := H1
  clear H1
  replace H := Option.bind_eq_some_iff.mp H
  obtain ⟨t277, A40, H⟩ := H
  replace H : (some (t277, true)) = some (r1, r2) := H
  have A4 := Aside0.mk A40
  clear A40
  simp only [Option.some.injEq, Prod.mk.injEq] at H
  obtain ⟨rfl, rfl⟩ := H
  go_enter Try.func12, Try.ntmps12
  go_wp2_with (first | ((with_reducible refine gate_callee (f := 31) rfl ?_); refine goesL_ (some 5) rfl rfl Try.func31 (by kernel_rfl) rfl #[.int .i64 a0] rfl (by (try simp only [List.map_toArray, List.map_cons, List.map_nil]); first | done | rfl) ?_; (with_reducible refine (impl_isArches.calls a0 true _ A2.out).mono ?_); rintro e w' ⟨rfl, ⟨nd, rfl⟩⟩; refine ⟨_, rfl, ?_⟩) | ((with_reducible refine gate_callee (f := 32) rfl ?_); refine goesL_ (some 8) rfl rfl Try.func32 (by kernel_rfl) rfl #[.int .i64 a0] rfl (by (try simp only [List.map_toArray, List.map_cons, List.map_nil]); first | done | rfl) ?_; (with_reducible refine (impl_systems.calls k a0 t277 _ A4.out).mono ?_); rintro e w5 ⟨v278, rfl, ho0, hb⟩; refine ⟨_, rfl, ?_⟩; have HO279 := Aside0.mk (Kd.S_lower ho0 (below_size (by repeat (first | exact HB.out | apply bA | apply bN | apply bD)))); replace HB := Aside0.mk (below_step (by repeat (first | exact HB.out | apply bA | apply bN | apply bD)) hb); (try clear hb2); (try clear hb hk hi); (try clear ho0)))
  go_ret2
  exact ⟨_, by first | rfl | (simp [*, errW_none, errW_some] <;> rfl), by (with_reducible repeat (first | apply Kd.S_alloc | apply Kd.S_drewN | apply Kd.S_drew)); exact HO279.out, by repeat (first | exact HB.out | apply bA | apply bN | apply bD)⟩
 ·replace c3 := Bool.eq_false_iff.mpr c3
  subst c3
  have H1 : (some (([] : List (List Int)), false)) = some (r1, r2) := by rw [if_neg (show ¬ (false = true) by decide)] at H; exact H
  clear H
  have H := H1
  clear H1
  simp only [Option.some.injEq, Prod.mk.injEq] at H
  obtain ⟨rfl, rfl⟩ := H
  go_enter Try.func12, Try.ntmps12
  go_wp2_with (first | ((with_reducible refine gate_callee (f := 31) rfl ?_); refine goesL_ (some 5) rfl rfl Try.func31 (by kernel_rfl) rfl #[.int .i64 a0] rfl (by (try simp only [List.map_toArray, List.map_cons, List.map_nil]); first | done | rfl) ?_; (with_reducible refine (impl_isArches.calls a0 false _ A2.out).mono ?_); rintro e w' ⟨rfl, ⟨nd, rfl⟩⟩; refine ⟨_, rfl, ?_⟩))
  go_ret2
  exact ⟨_, by first | rfl | (simp [*, errW_none, errW_some] <;> rfl), by first | exact Kd.S_nil _ _ _ _ _ | exact Kd.N_nil _ _ _ _ _ | exact Kd.V_nil _ _ _ _ _ | exact Kd.Q_nil _ _ _ _ _ | exact Kd.R_nil _ _ _ _ _, by repeat (first | exact HB.out | apply bA | apply bN | apply bD)⟩

/-! ### spec_AllSystems: function 13 -/
def spec_AllSystems.f (k : Nat) (a0 : Int) : Option ((List (List Int)) × Bool) := (spec_ahArches.f a0).bind fun t280 => (if t280 = true then ((spec_ahAll.f k a0 0).bind fun t281 => (some (t281, true))) else (some (([] : List (List Int)), false)))
theorem spec_AllSystems.mono : ∀ a0 k, LeO (spec_AllSystems.f k a0) (spec_AllSystems.f (k + 1) a0) := by
 intro a0 k
 unfold spec_AllSystems.f
 repeat' first
   | (with_reducible exact spec_ahAll.mono _ _ _)
   | (with_reducible exact LeO.refl _)
   | (with_reducible exact LeO.none _)
   | (with_reducible refine LeO.ite ?_ ?_)
   | (with_reducible refine LeO.bind ?_ (fun _ => ?_))
   | exact LeO.none _
   | refine LeO.ite ?_ ?_
   | refine LeO.bind ?_ (fun _ => ?_)
theorem spec_AllSystems.calls (k : Nat) (a0 : Int) (r1 : List (List Int)) (r2 : Bool) (w : World) (h : spec_AllSystems.f k a0 = some (r1, r2)) :
  Calls Try.prog 13 #[.int .i64 a0] w fun e w' => ∃ v0_ : Value, e = .returned (.tuple #[v0_, .bool r2]) ∧ Kd.S (Kd.slice 3 (Kd.int .i64)) 26 w' w.heap.size (fun _ => True) v0_ r1 ∧ Below w.heap.size w w' := by
 have HB := Aside0.mk (Below.refl w.heap.size w)
 have H : ((spec_ahArches.f a0).bind fun t280 => (if t280 = true then ((spec_ahAll.f k a0 0).bind fun t281 => (some (t281, true))) else (some (([] : List (List Int)), false)))) = some (r1, r2) := h
 clear h
 replace H := Option.bind_eq_some_iff.mp H
 obtain ⟨t280, A20, H⟩ := H
 replace H : (if t280 = true then ((spec_ahAll.f k a0 0).bind fun t281 => (some (t281, true))) else (some (([] : List (List Int)), false))) = some (r1, r2) := H
 have A2 := Aside0.mk A20
 clear A20
 by_cases c3 : t280 = true
 ·subst c3
  have H1 : ((spec_ahAll.f k a0 0).bind fun t281 => (some (t281, true))) = some (r1, r2) := by rw [if_pos rfl] at H; exact H
  clear H
  have H := H1
  clear H1
  replace H := Option.bind_eq_some_iff.mp H
  obtain ⟨t281, A40, H⟩ := H
  replace H : (some (t281, true)) = some (r1, r2) := H
  have A4 := Aside0.mk A40
  clear A40
  simp only [Option.some.injEq, Prod.mk.injEq] at H
  obtain ⟨rfl, rfl⟩ := H
  go_enter Try.func13, Try.ntmps13
  go_wp2_with (first | ((with_reducible refine gate_callee (f := 26) rfl ?_); refine goesL_ (some 5) rfl rfl Try.func26 (by kernel_rfl) rfl #[.int .i64 a0] rfl (by (try simp only [List.map_toArray, List.map_cons, List.map_nil]); first | done | rfl) ?_; (with_reducible refine (spec_ahArches.calls a0 true _ A2.out).mono ?_); rintro e w' ⟨rfl, ⟨nd, rfl⟩⟩; refine ⟨_, rfl, ?_⟩) | ((with_reducible refine gate_callee (f := 35) rfl ?_); refine goesL_ (some 8) rfl rfl Try.func35 (by kernel_rfl) rfl #[.int .i64 a0, .int .i64 0] rfl (by (try simp only [List.map_toArray, List.map_cons, List.map_nil]); first | done | rfl) ?_; (with_reducible refine (spec_ahAll.calls k a0 0 t281 _ A4.out).mono ?_); rintro e w5 ⟨v282, rfl, ho0, hb⟩; refine ⟨_, rfl, ?_⟩; have HO283 := Aside0.mk (Kd.S_lower ho0 (below_size (by repeat (first | exact HB.out | apply bA | apply bN | apply bD)))); replace HB := Aside0.mk (below_step (by repeat (first | exact HB.out | apply bA | apply bN | apply bD)) hb); (try clear hb2); (try clear hb hk hi); (try clear ho0)))
  go_ret2
  exact ⟨_, by first | rfl | (simp [*, errW_none, errW_some] <;> rfl), by (with_reducible repeat (first | apply Kd.S_alloc | apply Kd.S_drewN | apply Kd.S_drew)); exact HO283.out, by repeat (first | exact HB.out | apply bA | apply bN | apply bD)⟩
 ·replace c3 := Bool.eq_false_iff.mpr c3
  subst c3
  have H1 : (some (([] : List (List Int)), false)) = some (r1, r2) := by rw [if_neg (show ¬ (false = true) by decide)] at H; exact H
  clear H
  have H := H1
  clear H1
  simp only [Option.some.injEq, Prod.mk.injEq] at H
  obtain ⟨rfl, rfl⟩ := H
  go_enter Try.func13, Try.ntmps13
  go_wp2_with (first | ((with_reducible refine gate_callee (f := 26) rfl ?_); refine goesL_ (some 5) rfl rfl Try.func26 (by kernel_rfl) rfl #[.int .i64 a0] rfl (by (try simp only [List.map_toArray, List.map_cons, List.map_nil]); first | done | rfl) ?_; (with_reducible refine (spec_ahArches.calls a0 false _ A2.out).mono ?_); rintro e w' ⟨rfl, ⟨nd, rfl⟩⟩; refine ⟨_, rfl, ?_⟩))
  go_ret2
  exact ⟨_, by first | rfl | (simp [*, errW_none, errW_some] <;> rfl), by first | exact Kd.S_nil _ _ _ _ _ | exact Kd.N_nil _ _ _ _ _ | exact Kd.V_nil _ _ _ _ _ | exact Kd.Q_nil _ _ _ _ _ | exact Kd.R_nil _ _ _ _ _, by repeat (first | exact HB.out | apply bA | apply bN | apply bD)⟩

end Go.Proofs.Ytpbadjdeghmenaa.QFnSystemsListed
