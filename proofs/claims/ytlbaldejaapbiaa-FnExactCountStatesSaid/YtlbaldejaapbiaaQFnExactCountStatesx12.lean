-- Written by wip/myprint.py (a program of mine round the kit's printer). Lean checks it.
import Derived.Test.YtlbaldejaapbiaaQFnExactCountStatesx0
import Derived.Test.YtlbaldejaapbiaaQFnExactCountStatesx7
import Derived.Test.YtlbaldejaapbiaaQFnExactCountStatesx8
import Derived.Test.YtlbaldejaapbiaaQFnExactCountStatesx9
import Derived.Test.YtlbaldejaapbiaaQFnExactCountStatesx11
namespace Go.Proofs.Ytlbaldejaapbiaa.QFnExactCountStates
open Go.RowKit Go.Proofs.YtlbaldejaapbiaaW.PrintWords Go.Proofs.YtlbaldejaapbiaaW.PrintLast Go.Proofs.YtlbaldejaapbiaaW.PrintMore
attribute [local go_sem] max2_int min2_int max_two min_two max_three min_three max_four min_four   -- for this text's walks alone
set_option linter.unusedVariables false
set_option linter.unusedSimpArgs false

/-! ### impl_statesAfter: function 61 (by hand) -/
theorem impl_statesAfter.wp_at {P : Program} {ops : Array Oper} {Q : Exit → Act → World → Prop} {l : List Oper} {a : Act} {W : World} (h : ∀ w', Below W.heap.size W w' → wpList P ops Q l a w') : wpList P ops Q l a W := h W (Below.refl _ _)
/-! ### impl_statesAfter: function 61 -/
mutual
def impl_statesAfter.l0 : Nat → List (S27) → Int → Int → Option ((List (S27)))
  | 0, _, _, _ => none
  | k + 1, x3, x12, x13 => if x13 < x12 then (impl_statesAfter.l1 k (([] : List (S27))) x12 x13 x3 (x3.length : Int) 0) else (some x3)
def impl_statesAfter.l1 : Nat → List (S27) → Int → Int → List (S27) → Int → Int → Option ((List (S27)))
  | 0, _, _, _, _, _, _ => none
  | k + 1, x4, x12, x13, x16, x17, x18 => if x18 < x17 then (if 0 ≤ x18 then (if x18 < (x16.length : Int) then (impl_statesAfter.l2 k x4 x12 x13 x16 x17 x18 0 ((rd_T27 x16 x18).f0) ((rd_T27 x16 x18).f1) ((rd_T27 x16 x18).f2)) else (none)) else (none)) else ((slices_SortFunc_State.f x4).bind fun y418 => ((slices_CompactFunc_State.f y418).bind fun y418c => (impl_statesAfter.l0 k y418c x12 (wrap64 (x13 + 1)))))
def impl_statesAfter.l2 : Nat → List (S27) → Int → Int → List (S27) → Int → Int → Int → List Int → List Int → Int → Option ((List (S27)))
  | 0, _, _, _, _, _, _, _, _, _, _ => none
  | k + 1, x4, x12, x13, x16, x17, x18, x22, x426000, x426001, x426002 => if x22 < 4 then ((impl_State_stepped.f k x426000 x426001 x426002 x22).bind fun bt426 => (if bt426.2.2.2 = true then (if bt426.2.2.1 = 0 then (if x4.length < 2513169434916 then (impl_statesAfter.l2 k (x4 ++ [(⟨bt426.1, bt426.2.1, bt426.2.2.1⟩ : S27)]) x12 x13 x16 x17 x18 (wrap64 (x22 + 1)) x426000 x426001 x426002) else (none)) else (impl_statesAfter.l2 k x4 x12 x13 x16 x17 x18 (wrap64 (x22 + 1)) x426000 x426001 x426002)) else (impl_statesAfter.l2 k x4 x12 x13 x16 x17 x18 (wrap64 (x22 + 1)) x426000 x426001 x426002))) else (impl_statesAfter.l1 k x4 x12 x13 x16 x17 (wrap64 (x18 + 1)))
end
def impl_statesAfter.f (k : Nat) (a0 : Int) : Option ((List (S27))) := (impl_StartState.f).bind fun bt405 => (impl_statesAfter.l0 k (([(⟨bt405.1, bt405.2.1, bt405.2.2⟩ : S27)] : List (S27))) a0 0)
theorem impl_statesAfter.mono_l : ∀ k, (∀ y0 y1 y2, LeO (impl_statesAfter.l0 k y0 y1 y2) (impl_statesAfter.l0 (k + 1) y0 y1 y2)) ∧ (∀ y0 y1 y2 y3 y4 y5, LeO (impl_statesAfter.l1 k y0 y1 y2 y3 y4 y5) (impl_statesAfter.l1 (k + 1) y0 y1 y2 y3 y4 y5)) ∧ (∀ y0 y1 y2 y3 y4 y5 y6 y7 y8 y9, LeO (impl_statesAfter.l2 k y0 y1 y2 y3 y4 y5 y6 y7 y8 y9) (impl_statesAfter.l2 (k + 1) y0 y1 y2 y3 y4 y5 y6 y7 y8 y9))
  | 0 => ⟨fun _ _ _ r h => by simp [impl_statesAfter.l0] at h, fun _ _ _ _ _ _ r h => by simp [impl_statesAfter.l1] at h, fun _ _ _ _ _ _ _ _ _ _ r h => by simp [impl_statesAfter.l2] at h⟩
  | k + 1 => by
    obtain ⟨ih0, ih1, ih2⟩ := impl_statesAfter.mono_l k
    refine ⟨?_, ?_, ?_⟩
    · intro y0 y1 y2
      unfold impl_statesAfter.l0
      repeat' first
      | (with_reducible exact ih0 _ _ _)
      | (with_reducible exact ih1 _ _ _ _ _ _)
      | (with_reducible exact ih2 _ _ _ _ _ _ _ _ _ _)
      | (with_reducible exact impl_State_stepped.mono _ _ _ _ _)
      | (with_reducible exact LeO.refl _)
      | (with_reducible exact LeO.none _)
      | (with_reducible refine LeO.ite ?_ ?_)
      | (with_reducible refine LeO.bind ?_ (fun _ => ?_))
      | exact LeO.none _
      | refine LeO.ite ?_ ?_
      | refine LeO.bind ?_ (fun _ => ?_)
    · intro y0 y1 y2 y3 y4 y5
      unfold impl_statesAfter.l1
      repeat' first
      | (with_reducible exact ih0 _ _ _)
      | (with_reducible exact ih1 _ _ _ _ _ _)
      | (with_reducible exact ih2 _ _ _ _ _ _ _ _ _ _)
      | (with_reducible exact impl_State_stepped.mono _ _ _ _ _)
      | (with_reducible exact LeO.refl _)
      | (with_reducible exact LeO.none _)
      | (with_reducible refine LeO.ite ?_ ?_)
      | (with_reducible refine LeO.bind ?_ (fun _ => ?_))
      | exact LeO.none _
      | refine LeO.ite ?_ ?_
      | refine LeO.bind ?_ (fun _ => ?_)
    · intro y0 y1 y2 y3 y4 y5 y6 y7 y8 y9
      unfold impl_statesAfter.l2
      repeat' first
      | (with_reducible exact ih0 _ _ _)
      | (with_reducible exact ih1 _ _ _ _ _ _)
      | (with_reducible exact ih2 _ _ _ _ _ _ _ _ _ _)
      | (with_reducible exact impl_State_stepped.mono _ _ _ _ _)
      | (with_reducible exact LeO.refl _)
      | (with_reducible exact LeO.none _)
      | (with_reducible refine LeO.ite ?_ ?_)
      | (with_reducible refine LeO.bind ?_ (fun _ => ?_))
      | exact LeO.none _
      | refine LeO.ite ?_ ?_
      | refine LeO.bind ?_ (fun _ => ?_)
theorem impl_statesAfter.mono : ∀ a0 k, LeO (impl_statesAfter.f k a0) (impl_statesAfter.f (k + 1) a0) := by
  intro a0 k
  obtain ⟨ih0, ih1, ih2⟩ := impl_statesAfter.mono_l k
  unfold impl_statesAfter.f
  repeat' first
      | (with_reducible exact ih0 _ _ _)
      | (with_reducible exact ih1 _ _ _ _ _ _)
      | (with_reducible exact ih2 _ _ _ _ _ _ _ _ _ _)
      | (with_reducible exact impl_State_stepped.mono _ _ _ _ _)
      | (with_reducible exact LeO.refl _)
      | (with_reducible exact LeO.none _)
      | (with_reducible refine LeO.ite ?_ ?_)
      | (with_reducible refine LeO.bind ?_ (fun _ => ?_))
      | exact LeO.none _
      | refine LeO.ite ?_ ?_
      | refine LeO.bind ?_ (fun _ => ?_)
set_option maxHeartbeats 8000000 in
set_option maxRecDepth 100000 in
theorem impl_statesAfter.calls (k : Nat) (a0 : Int) (r : List (S27)) (w : World) (h : impl_statesAfter.f k a0 = some r) :
    Calls Try.prog 61 #[.int .i64 a0] w fun e w' => ∃ v0_ : Value, e = .returned (v0_) ∧ Kd.N k27 27 w' w.heap.size (fun k_ => (w.heap.size ≤ k_)) v0_ r ∧ Below w.heap.size w w' := by
  have hu27 := Try.underlying27
  have HB := Aside0.mk (Below.refl w.heap.size w)
  have H : ((impl_StartState.f).bind fun bt405 => (impl_statesAfter.l0 k (([(⟨bt405.1, bt405.2.1, bt405.2.2⟩ : S27)] : List (S27))) a0 0)) = some r := h
  clear h
  replace H := Option.bind_eq_some_iff.mp H
  obtain ⟨⟨t405, t408, t411⟩, A20, H⟩ := H
  replace H : (impl_statesAfter.l0 k (([(⟨t405, t408, t411⟩ : S27)] : List (S27))) a0 0) = some r := H
  have A2 := Aside0.mk A20
  clear A20
  obtain ⟨y412, hy412⟩ : ∃ y_ : List (S27), y_ = (([(⟨t405, t408, t411⟩ : S27)] : List (S27))) := ⟨_, rfl⟩
  replace H : (impl_statesAfter.l0 k y412 a0 0) = some r := by first | (rw [hy412]; with_reducible exact H) | (have H2_ := (Option.bind_some _ _).symm.trans H; rw [hy412]; with_reducible exact H2_) | (have H2_ := (Option.bind_some _ _).symm.trans H; with_reducible exact H2_) | with_reducible exact H | (rw [hy412]; exact H) | exact H
  have Ny412 := Aside0.mk hy412
  clear hy412
  have H' := Aside0.mk H
  clear H
  go_enter Try.func61, Try.ntmps61
  go_wp2_with (first | ((with_reducible refine gate_callee (f := 57) rfl ?_); refine goesL_ (some 10) rfl rfl Try.func57 (by kernel_rfl) rfl #[] rfl (by (try simp only [List.map_toArray, List.map_cons, List.map_nil]); first | done | rfl) ?_; (with_reducible refine (impl_StartState.calls  t405 t408 t411 _ A2.out).mono ?_); rintro e w3 ⟨v406, v409, rfl, ho0, ho1, hb⟩; refine ⟨_, rfl, ?_⟩; have HO407 := Aside0.mk (Kd.R_lower (Kd.R_newM (M := fun k_ => (w.heap.size ≤ k_)) ho0 (below_size (by repeat (with_reducible first | exact HB.out | apply bA | apply bN | apply bD))) (fun k_ h_ => h_)) (below_size (by repeat (with_reducible first | exact HB.out | apply bA | apply bN | apply bD)))); have HO410 := Aside0.mk (Kd.R_lower (Kd.R_newM (M := fun k_ => (w.heap.size ≤ k_)) ho1 (below_size (by repeat (with_reducible first | exact HB.out | apply bA | apply bN | apply bD))) (fun k_ h_ => h_)) (below_size (by repeat (with_reducible first | exact HB.out | apply bA | apply bN | apply bD)))); replace HB := Aside0.mk (below_step (by repeat (with_reducible first | exact HB.out | apply bA | apply bN | apply bD)) hb); (try clear hb); (try clear hb2); (try clear hk); (try clear hi); (try clear ho0); (try clear ho1); obtain ⟨Ao4, co4, eo4⟩ := Kd.R_slice HO407.out; subst eo4; obtain ⟨Ao5, co5, eo5⟩ := Kd.R_slice HO410.out; subst eo5) | ((with_reducible refine gate_dst (N := 11) rfl ?_); refine Kd.N_lit k27 _ 27 ?hg (N' := 11) ?hd (xs := ([(⟨t405, t408, t411⟩ : S27)] : List (S27))) (inner := [.slice Ao4 t405.length co4, .slice Ao5 t408.length co5, .int .i64 t411]) (ok := (fun k_ => (w.heap.size ≤ k_))) (okp := (fun k_ => (w.heap.size ≤ k_))) ?hr ?hp (fun _ hk => hk) ((show ∀ k_, w3.heap.size ≤ k_ → (fun k_ => (w.heap.size ≤ k_)) k_ from fun k_ hk => (Nat.le_trans (below_size (by repeat (with_reducible first | exact HB.out | apply bA | apply bN | apply bD))) hk)) _ (Nat.le_refl _)) (Below.refl _ _) (Nat.le_refl _) (by simp) ?_; (case hd => rfl); (case hg => rfl); (case hr => first | (go_simp; done) | (go_simp; rfl)); (case hp => exact (Reps.c3 (show Kd.FK k27 _ _ (⟨t405, t408, t411⟩ : S27) [.slice Ao4 t405.length co4, .slice Ao5 t408.length co5, .int .i64 t411] from (k27_mkF _ _ (⟨t405, t408, t411⟩ : S27) (Kd.R_reads' (Kd.R_mono (ok' := (fun k_ => (w.heap.size ≤ k_))) (HO407.out) (fun k_ hk => hk.1))).2.1 (Kd.R_F (Kd.R_mono (ok' := (fun k_ => (w.heap.size ≤ k_))) (HO407.out) (fun k_ hk => hk.1))) (Kd.R_reads' (Kd.R_mono (ok' := (fun k_ => (w.heap.size ≤ k_))) (HO410.out) (fun k_ hk => hk.1))).2.1 (Kd.R_F (Kd.R_mono (ok' := (fun k_ => (w.heap.size ≤ k_))) (HO410.out) (fun k_ hk => hk.1))))) (Reps.none _ _))); intro v413 w6 ho7 hb hg_ hnew_; clear hg_ hnew_; (first | rw [← Ny412.out] at ho7 | (simp only [Int.reduceToNat] at ho7; rw [← Ny412.out] at ho7)); have HO414 := Aside0.mk (Kd.N_lower ho7 (below_size (by repeat (with_reducible first | exact HB.out | apply bA | apply bN | apply bD)))); replace HB := Aside0.mk (below_step (by repeat (with_reducible first | exact HB.out | apply bA | apply bN | apply bD)) hb); clear HO407 HO410; clear hb ho7))
  go_loopg [3, 13] k (fun kq v3 v13 w' => ∃ (x3_1 : List (S27)) (x13_1 : Int), v13 = .int .i64 x13_1 ∧ Aside0 (impl_statesAfter.l0 kq x3_1 a0 x13_1 = some r) ∧ Aside0 (kq ≤ k) ∧ Aside0 (Kd.N k27 27 w' w.heap.size (fun k_ => (w.heap.size ≤ k_)) v3 x3_1) ∧ Aside0 (Below w.heap.size w w'))
  case atStart => exact ⟨(y412), (0), (by first | rfl | (simp; done) | (simp [*]; done)), H', ⟨Nat.le_refl _⟩, ⟨by (with_reducible repeat (first | apply Kd.N_alloc | apply Kd.N_drewN | apply Kd.N_drew)); exact HO414.out⟩, ⟨by repeat (with_reducible first | exact HB.out | apply bA | apply bN | apply bD)⟩⟩
  case round =>
    clear H'
    try clear p2
    obtain ⟨x3_1, x13_1, rfl, HA, HK1, HO_3, HB⟩ := hrel
    cases gk with
    | zero => exact absurd HA.out (by simp [impl_statesAfter.l0])
    | succ k1 =>
      have H := HA.out
      clear HA
      simp only [impl_statesAfter.l0] at H
      by_cases c8 : x13_1 < a0
      · rw [if_pos c8] at H
        have c8b0 : decide (x13_1 < a0) = true := decide_eq_true c8
        clear c8
        obtain ⟨y415, hy415⟩ : ∃ y_ : List (S27), y_ = (([] : List (S27))) := ⟨_, rfl⟩
        replace H : (impl_statesAfter.l1 k1 y415 a0 x13_1 x3_1 (x3_1.length : Int) 0) = some r := by first | (rw [hy415]; with_reducible exact H) | (have H2_ := (Option.bind_some _ _).symm.trans H; rw [hy415]; with_reducible exact H2_) | (have H2_ := (Option.bind_some _ _).symm.trans H; with_reducible exact H2_) | with_reducible exact H | (rw [hy415]; exact H) | exact H
        have Ny415 := Aside0.mk hy415
        clear hy415
        have H' := Aside0.mk H
        clear H
        go_wp2_with (first | ((with_reducible refine gate_dst (N := 15) rfl ?_); refine Kd.N_lit k27 _ 27 ?hg (N' := 15) ?hd (xs := ([] : List (S27))) (inner := []) (ok := (fun k_ => (w.heap.size ≤ k_) ∧ some k_ ≠ (u3 : Value).ownBlock)) (okp := (fun k_ => (w.heap.size ≤ k_) ∧ some k_ ≠ (u3 : Value).ownBlock)) ?hr ?hp (fun _ hk => hk) ((show ∀ k_, wr.heap.size ≤ k_ → (fun k_ => (w.heap.size ≤ k_) ∧ some k_ ≠ (u3 : Value).ownBlock) k_ from fun k_ hk => ⟨(Nat.le_trans (below_size (by repeat (with_reducible first | exact HB.out | apply bA | apply bN | apply bD))) hk), Kd.fresh' (Kd.N_lt (by (with_reducible repeat (first | apply Kd.N_alloc | apply Kd.N_drewN | apply Kd.N_drew)); exact HO_3.out)) k_ hk⟩) _ (Nat.le_refl _)) (Below.refl _ _) (Nat.le_refl _) (by simp) ?_; (case hd => rfl); (case hg => rfl); (case hr => first | (go_simp; done) | (go_simp; rfl)); (case hp => exact (Reps.none _ _)); intro v416 w9 ho10 hb hg_ hnew_; clear hg_ hnew_; (first | rw [← Ny415.out] at ho10 | (simp only [Int.reduceToNat] at ho10; rw [← Ny415.out] at ho10)); replace HO_3 := Aside0.mk (Kd.N_elder' (by (with_reducible repeat (first | apply Kd.N_alloc | apply Kd.N_drewN | apply Kd.N_drew)); exact HO_3.out) (Kd.N_base ho10) hb); have HO417 := Aside0.mk (Kd.N_lower ho10 (below_size (by repeat (with_reducible first | exact HB.out | apply bA | apply bN | apply bD)))); replace HB := Aside0.mk (below_step (by repeat (with_reducible first | exact HB.out | apply bA | apply bN | apply bD)) hb); clear hb ho10; obtain ⟨Ao11, co11, eo11⟩ := Kd.N_slice HO_3.out; subst eo11))
        go_loopg [4, 18] k1 (fun kq v4 v18 w' => ∃ (x4_2 : List (S27)) (x18_2 : Int), v18 = .int .i64 x18_2 ∧ Aside0 (impl_statesAfter.l1 kq x4_2 a0 x13_1 x3_1 (x3_1.length : Int) x18_2 = some r) ∧ Aside0 (kq ≤ k1) ∧ Aside0 (Kd.N k27 27 w' w.heap.size (fun k_ => (w.heap.size ≤ k_) ∧ some k_ ≠ ((.slice Ao11 x3_1.length co11) : Value).ownBlock) v4 x4_2) ∧ Aside0 (Kd.N k27 27 w' w.heap.size (fun k_ => (w.heap.size ≤ k_) ∧ some k_ ≠ (v4 : Value).ownBlock) (.slice Ao11 x3_1.length co11) x3_1) ∧ Aside0 (Below w.heap.size w w'))
        case atStart => exact ⟨(y415), (0), (by first | rfl | (simp; done) | (simp [*]; done)), H', ⟨Nat.le_refl _⟩, ⟨by (with_reducible repeat (first | apply Kd.N_alloc | apply Kd.N_drewN | apply Kd.N_drew)); exact HO417.out⟩, ⟨by (with_reducible repeat (first | apply Kd.N_alloc | apply Kd.N_drewN | apply Kd.N_drew)); exact HO_3.out⟩, ⟨by repeat (with_reducible first | exact HB.out | apply bA | apply bN | apply bD)⟩⟩
        case round =>
          clear H'
          try clear p2
          try clear p2
          obtain ⟨x4_2, x18_2, rfl, HA, HK2, HO_4, HO_16, HB⟩ := hrel
          cases gk with
          | zero => exact absurd HA.out (by simp [impl_statesAfter.l1])
          | succ k2 =>
            have H := HA.out
            clear HA
            simp only [impl_statesAfter.l1] at H
            by_cases c12 : x18_2 < (x3_1.length : Int)
            · rw [if_pos c12] at H
              have c12b0 : decide (x18_2 < (x3_1.length : Int)) = true := decide_eq_true c12
              clear c12
              by_cases c13 : 0 ≤ x18_2
              · rw [if_pos c13] at H
                have c13b0 : decide (0 ≤ x18_2) = true := decide_eq_true c13
                clear c13
                by_cases c14 : x18_2 < (x3_1.length : Int)
                · rw [if_pos c14] at H
                  have c14b0 : decide (x18_2 < (x3_1.length : Int)) = true := decide_eq_true c14
                  clear c14
                  have H' := Aside0.mk H
                  clear H
                  have p424 : 0 ≤ (x18_2 : Int) := of_decide_eq_true (by assumption)
                  have q424 : x18_2 < (x3_1.length : Int) := of_decide_eq_true (by assumption)
                  obtain ⟨ad424, A424_0, c424_0, A424_1, c424_1, e424, hx424_0, hx424_1, hx424_2, hl424_0, hi424_0, hl424_1, hi424_1⟩ := at_T27 (Kd.N_reads' HO_16.out).2.2 x18_2 p424 q424
                  cases e424
                  obtain ⟨ce424, hce424, hMe424, hcc424⟩ := Kd.N_get HO_16.out z27 x18_2 p424 (by first | exact q424 | exact of_decide_eq_true (by assumption) | (have e_ := (Kd.N_reads' HO_16.out).1; omega))
                  obtain ⟨ua424_0, uc424_0, ua424_1, uc424_1, rfl, ul424_0, ge424_0, ul424_1, ge424_1⟩ := k27_openF hMe424
                  have hv424_0 := hcc424 0 _ rfl
                  rw [Nat.add_zero] at hv424_0
                  replace hv424_0 := Option.some.inj (hv424_0.symm.trans hx424_0)
                  injection hv424_0 with hva_ hvn_ hvc_
                  rw [hva_] at ge424_0
                  rw [hvc_] at ul424_0
                  have HL424_0 := Aside0.mk (show Kd.V (Kd.int .i64) 3 _ w.heap.size _ _ ((rd_T27 x3_1 x18_2).f0) from Kd.V_mk ul424_0 ge424_0)
                  clear hva_ hvn_ hvc_ ge424_0 ul424_0
                  have hv424_1 := hcc424 1 _ rfl
                  rw [add_field _ _ 1 (by omega)] at hv424_1
                  replace hv424_1 := Option.some.inj (hv424_1.symm.trans hx424_1)
                  injection hv424_1 with hva_ hvn_ hvc_
                  rw [hva_] at ge424_1
                  rw [hvc_] at ul424_1
                  have HL424_1 := Aside0.mk (show Kd.V (Kd.int .i64) 3 _ w.heap.size _ _ ((rd_T27 x3_1 x18_2).f1) from Kd.V_mk ul424_1 ge424_1)
                  clear hva_ hvn_ hvc_ ge424_1 ul424_1 hcc424 hce424
                  have HR424_0 := Aside0.mk hi424_0
                  have HC424_0 := Aside0.mk hl424_0
                  clear hi424_0 hl424_0
                  have HR424_1 := Aside0.mk hi424_1
                  have HC424_1 := Aside0.mk hl424_1
                  clear hi424_1 hl424_1
                  replace p424 := eq_true p424
                  replace q424 := eq_true q424
                  go_wp2_with (first | ((with_reducible refine gate_dst (N := 6) rfl ?_); refine box_event ?hg (N := 6) ?hd (cs := #[.slice none 0 0, .slice none 0 0, .int .i64 0]) (t := 27) ?hr ?_; (case hd => rfl); (case hg => rfl); (case hr => first | (go_simp; done) | (go_simp; rfl)); intro gb425 hg w15 hbox hb; replace HO_4 := Aside0.mk (Kd.N_below (Kd.N_elderB (by (with_reducible repeat (first | apply Kd.N_alloc | apply Kd.N_drewN | apply Kd.N_drew)); exact HO_4.out) gb425 (Nat.le_of_eq hg.symm)) hb); replace HO_16 := Aside0.mk (Kd.N_below (Kd.N_elderB (by (with_reducible repeat (first | apply Kd.N_alloc | apply Kd.N_drewN | apply Kd.N_drew)); exact HO_16.out) gb425 (Nat.le_of_eq hg.symm)) hb); replace HL424_0 := Aside0.mk (Kd.V_below (Kd.V_elderB (by (with_reducible repeat (first | apply Kd.V_alloc | apply Kd.V_drewN | apply Kd.V_drew)); exact HL424_0.out) gb425 (Nat.le_of_eq hg.symm)) hb); replace HL424_1 := Aside0.mk (Kd.V_below (Kd.V_elderB (by (with_reducible repeat (first | apply Kd.V_alloc | apply Kd.V_drewN | apply Kd.V_drew)); exact HL424_1.out) gb425 (Nat.le_of_eq hg.symm)) hb); replace HR424_0 := Aside0.mk (Kd.C_below (by repeat (first | (with_reducible exact HR424_0.out) | (with_reducible refine Kd.C_alloc ?_ _) | (with_reducible refine Kd.C_drewN ?_ _) | (with_reducible refine Kd.C_drew ?_) | exact HR424_0.out)) hb); replace HR424_1 := Aside0.mk (Kd.C_below (by repeat (first | (with_reducible exact HR424_1.out) | (with_reducible refine Kd.C_alloc ?_ _) | (with_reducible refine Kd.C_drewN ?_ _) | (with_reducible refine Kd.C_drew ?_) | exact HR424_1.out)) hb); have BK425 := Aside0.mk (hbox); have GW425 := Aside0.mk ((by rw [hg]; exact (below_size (by repeat (with_reducible first | exact HB.out | apply bA | apply bN | apply bD))) : w.heap.size ≤ gb425)); have GE425 := Aside0.mk ((by rw [hg]; exact (below_size (by repeat (with_reducible first | exact HB.out | apply bA | apply bN | apply bD))) : w.heap.size ≤ gb425)); replace HB := Aside0.mk (below_step (by repeat (with_reducible first | exact HB.out | apply bA | apply bN | apply bD)) hb); clear hb hbox hg; have hcz16_0 : w15.cell? ⟨gb425, 0, none⟩ = some (.slice none 0 0) := (blk_cell BK425.out 0).trans rfl; have hcz16_1 : w15.cell? ⟨gb425, 1, none⟩ = some (.slice none 0 0) := (blk_cell BK425.out 1).trans rfl; have hcz16_2 : w15.cell? ⟨gb425, 2, none⟩ = some (.int .i64 0) := (blk_cell BK425.out 2).trans rfl; have hfz16_0 := blk_frozen BK425.out 0; have hfz16_1 := blk_frozen BK425.out 1; have hfz16_2 := blk_frozen BK425.out 2))
                  go_loopg [4, 22] k2 (fun kq v4 v22 w' => ∃ (x4_3 : List (S27)) (x22_3 : Int), v22 = .int .i64 x22_3 ∧ Aside0 (impl_statesAfter.l2 kq x4_3 a0 x13_1 x3_1 (x3_1.length : Int) x18_2 x22_3 ((rd_T27 x3_1 x18_2).f0) ((rd_T27 x3_1 x18_2).f1) ((rd_T27 x3_1 x18_2).f2) = some r) ∧ Aside0 (kq ≤ k2) ∧ Aside0 (Kd.N k27 27 w' w.heap.size (fun k_ => (w.heap.size ≤ k_) ∧ some k_ ≠ ((.slice (some ad424) x3_1.length co11) : Value).ownBlock ∧ k_ ≠ gb425) v4 x4_3) ∧ Aside0 (Kd.N k27 27 w' w.heap.size (fun k_ => (w.heap.size ≤ k_) ∧ some k_ ≠ (v4 : Value).ownBlock ∧ k_ ≠ gb425) (.slice (some ad424) x3_1.length co11) x3_1) ∧ Aside0 (Kd.V (Kd.int .i64) 3 w' w.heap.size (fun k_ => (w.heap.size ≤ k_) ∧ some k_ ≠ (v4 : Value).ownBlock ∧ some k_ ≠ ((.slice (some ad424) x3_1.length co11) : Value).ownBlock ∧ k_ ≠ gb425) (.slice A424_0 ((rd_T27 x3_1 x18_2).f0).length c424_0) ((rd_T27 x3_1 x18_2).f0)) ∧ Aside0 (Kd.V (Kd.int .i64) 3 w' w.heap.size (fun k_ => (w.heap.size ≤ k_) ∧ some k_ ≠ (v4 : Value).ownBlock ∧ some k_ ≠ ((.slice (some ad424) x3_1.length co11) : Value).ownBlock ∧ k_ ≠ gb425) (.slice A424_1 ((rd_T27 x3_1 x18_2).f1).length c424_1) ((rd_T27 x3_1 x18_2).f1)) ∧ Aside0 (w'.heap[gb425]? = some (.cells #[(.slice A424_0 ((rd_T27 x3_1 x18_2).f0).length c424_0), (.slice A424_1 ((rd_T27 x3_1 x18_2).f1).length c424_1), .int .i64 ((rd_T27 x3_1 x18_2).f2)] 27 (0, 0))) ∧ Aside0 (Below w.heap.size w w'))
                  case atStart => exact ⟨(x4_2), (0), (by first | rfl | (simp; done) | (simp [*]; done)), H', ⟨Nat.le_refl _⟩, ⟨by (with_reducible repeat (first | apply Kd.N_alloc | apply Kd.N_drewN | apply Kd.N_drew)); exact Kd.N_mono (Kd.N_far (p := ⟨gb425, 2, none⟩) (Kd.N_far (p := ⟨gb425, 1, none⟩) (Kd.N_far (p := ⟨gb425, 0, none⟩) (Kd.N_mono HO_4.out (fun k_ hk => (⟨hk, hk.2⟩ : _ ∧ k_ ≠ gb425))) (fun _ hk => hk.2) (.slice A424_0 ((rd_T27 x3_1 x18_2).f0).length c424_0)) (fun _ hk => hk.2) (.slice A424_1 ((rd_T27 x3_1 x18_2).f1).length c424_1)) (fun _ hk => hk.2) (.int .i64 ((rd_T27 x3_1 x18_2).f2))) (fun _ hk => ⟨hk.1.1.1, ⟨hk.1.1.2, hk.1.2⟩⟩)⟩, ⟨by (with_reducible repeat (first | apply Kd.N_alloc | apply Kd.N_drewN | apply Kd.N_drew)); exact Kd.N_mono (Kd.N_far (p := ⟨gb425, 2, none⟩) (Kd.N_far (p := ⟨gb425, 1, none⟩) (Kd.N_far (p := ⟨gb425, 0, none⟩) (Kd.N_mono HO_16.out (fun k_ hk => (⟨hk, hk.2⟩ : _ ∧ k_ ≠ gb425))) (fun _ hk => hk.2) (.slice A424_0 ((rd_T27 x3_1 x18_2).f0).length c424_0)) (fun _ hk => hk.2) (.slice A424_1 ((rd_T27 x3_1 x18_2).f1).length c424_1)) (fun _ hk => hk.2) (.int .i64 ((rd_T27 x3_1 x18_2).f2))) (fun _ hk => ⟨hk.1.1.1, ⟨hk.1.1.2, hk.1.2⟩⟩)⟩, ⟨by (with_reducible repeat (first | apply Kd.V_alloc | apply Kd.V_drewN | apply Kd.V_drew)); exact Kd.V_mono (Kd.V_far (p := ⟨gb425, 2, none⟩) (Kd.V_far (p := ⟨gb425, 1, none⟩) (Kd.V_far (p := ⟨gb425, 0, none⟩) (Kd.V_mono HL424_0.out (fun k_ hk => (⟨hk, hk.2⟩ : _ ∧ k_ ≠ gb425))) (fun _ hk => hk.2) (.slice A424_0 ((rd_T27 x3_1 x18_2).f0).length c424_0)) (fun _ hk => hk.2) (.slice A424_1 ((rd_T27 x3_1 x18_2).f1).length c424_1)) (fun _ hk => hk.2) (.int .i64 ((rd_T27 x3_1 x18_2).f2))) (fun _ hk => ⟨hk.1.1.1.1, ⟨hk.1.1.1.2, ⟨hk.1.1.2, hk.1.2⟩⟩⟩)⟩, ⟨by (with_reducible repeat (first | apply Kd.V_alloc | apply Kd.V_drewN | apply Kd.V_drew)); exact Kd.V_mono (Kd.V_far (p := ⟨gb425, 2, none⟩) (Kd.V_far (p := ⟨gb425, 1, none⟩) (Kd.V_far (p := ⟨gb425, 0, none⟩) (Kd.V_mono HL424_1.out (fun k_ hk => (⟨hk, hk.2⟩ : _ ∧ k_ ≠ gb425))) (fun _ hk => hk.2) (.slice A424_0 ((rd_T27 x3_1 x18_2).f0).length c424_0)) (fun _ hk => hk.2) (.slice A424_1 ((rd_T27 x3_1 x18_2).f1).length c424_1)) (fun _ hk => hk.2) (.int .i64 ((rd_T27 x3_1 x18_2).f2))) (fun _ hk => ⟨hk.1.1.1.1, ⟨hk.1.1.1.2, ⟨hk.1.1.2, hk.1.2⟩⟩⟩)⟩, ⟨by (with_reducible repeat (first | refine blk_drewN ?_ _ | refine blk_drew ?_ | refine blk_alloc ?_ _)); refine blk_put (cs := #[.slice A424_0 ((rd_T27 x3_1 x18_2).f0).length c424_0, .slice A424_1 ((rd_T27 x3_1 x18_2).f1).length c424_1, .int .i64 0]) ?_ 2 _ rfl; (with_reducible repeat (first | refine blk_drewN ?_ _ | refine blk_drew ?_ | refine blk_alloc ?_ _)); refine blk_put (cs := #[.slice A424_0 ((rd_T27 x3_1 x18_2).f0).length c424_0, .slice none 0 0, .int .i64 0]) ?_ 1 _ rfl; (with_reducible repeat (first | refine blk_drewN ?_ _ | refine blk_drew ?_ | refine blk_alloc ?_ _)); refine blk_put (cs := #[.slice none 0 0, .slice none 0 0, .int .i64 0]) ?_ 0 _ rfl; (with_reducible repeat (first | refine blk_drewN ?_ _ | refine blk_drew ?_ | refine blk_alloc ?_ _)); exact BK425.out⟩, ⟨by repeat (with_reducible first | exact HB.out | apply bA | apply bN | apply bD | refine below_set ?_ GE425.out)⟩⟩
                  case round =>
                    clear H'
                    try clear p2
                    try clear p4
                    try clear q4
                    try clear hx4
                    try clear hcz16_0
                    try clear hcz16_1
                    try clear hcz16_2
                    try clear hfz16_0
                    try clear hfz16_1
                    try clear hfz16_2
                    try clear hx424_0
                    try clear hx424_1
                    try clear hx424_2
                    try clear p2
                    try clear p424
                    try clear q424
                    obtain ⟨x4_3, x22_3, rfl, HA, HK3, HO_4, HO_16, HO_426000, HO_426001, BK425, HB⟩ := hrel
                    cases gk with
                    | zero => exact absurd HA.out (by simp [impl_statesAfter.l2])
                    | succ k3 =>
                      have H := HA.out
                      clear HA
                      simp only [impl_statesAfter.l2] at H
                      by_cases c17 : x22_3 < 4
                      · rw [if_pos c17] at H
                        have c17b0 : decide (x22_3 < 4) = true := decide_eq_true c17
                        clear c17
                        replace H := Option.bind_eq_some_iff.mp H
                        obtain ⟨⟨t426, t429, t432, t433⟩, A180, H⟩ := H
                        replace H : (if t433 = true then (if t432 = 0 then (if x4_3.length < 2513169434916 then (impl_statesAfter.l2 k3 (x4_3 ++ [(⟨t426, t429, t432⟩ : S27)]) a0 x13_1 x3_1 (x3_1.length : Int) x18_2 (wrap64 (x22_3 + 1)) ((rd_T27 x3_1 x18_2).f0) ((rd_T27 x3_1 x18_2).f1) ((rd_T27 x3_1 x18_2).f2)) else (none)) else (impl_statesAfter.l2 k3 x4_3 a0 x13_1 x3_1 (x3_1.length : Int) x18_2 (wrap64 (x22_3 + 1)) ((rd_T27 x3_1 x18_2).f0) ((rd_T27 x3_1 x18_2).f1) ((rd_T27 x3_1 x18_2).f2))) else (impl_statesAfter.l2 k3 x4_3 a0 x13_1 x3_1 (x3_1.length : Int) x18_2 (wrap64 (x22_3 + 1)) ((rd_T27 x3_1 x18_2).f0) ((rd_T27 x3_1 x18_2).f1) ((rd_T27 x3_1 x18_2).f2))) = some r := H
                        have A18 := Aside0.mk A180
                        clear A180
                        by_cases c19 : t433 = true
                        · subst c19
                          have H1 : (if t432 = 0 then (if x4_3.length < 2513169434916 then (impl_statesAfter.l2 k3 (x4_3 ++ [(⟨t426, t429, t432⟩ : S27)]) a0 x13_1 x3_1 (x3_1.length : Int) x18_2 (wrap64 (x22_3 + 1)) ((rd_T27 x3_1 x18_2).f0) ((rd_T27 x3_1 x18_2).f1) ((rd_T27 x3_1 x18_2).f2)) else (none)) else (impl_statesAfter.l2 k3 x4_3 a0 x13_1 x3_1 (x3_1.length : Int) x18_2 (wrap64 (x22_3 + 1)) ((rd_T27 x3_1 x18_2).f0) ((rd_T27 x3_1 x18_2).f1) ((rd_T27 x3_1 x18_2).f2))) = some r := by rw [if_pos rfl] at H; exact H
                          clear H
                          have H := H1
                          clear H1
                          by_cases c20 : t432 = 0
                          · rw [if_pos c20] at H
                            have c20b0 : (t432 == 0) = true := beq_iff_eq.mpr c20
                            have c20b1 : (t432 != 0) = false := bne_eq_false_iff_eq.mpr c20
                            clear c20
                            replace H : (if x4_3.length < 2513169434916 then (impl_statesAfter.l2 k3 (x4_3 ++ [(⟨t426, t429, t432⟩ : S27)]) a0 x13_1 x3_1 (x3_1.length : Int) x18_2 (wrap64 (x22_3 + 1)) ((rd_T27 x3_1 x18_2).f0) ((rd_T27 x3_1 x18_2).f1) ((rd_T27 x3_1 x18_2).f2)) else (none)) = some r := H
                            by_cases c22 : x4_3.length < 2513169434916
                            · rw [if_pos c22] at H
                              have LMc22 := Aside0.mk c22
                              clear c22
                              obtain ⟨y436, hy436⟩ : ∃ y_ : List (S27), y_ = (x4_3 ++ [(⟨t426, t429, t432⟩ : S27)]) := ⟨_, rfl⟩
                              replace H : (impl_statesAfter.l2 k3 y436 a0 x13_1 x3_1 (x3_1.length : Int) x18_2 (wrap64 (x22_3 + 1)) ((rd_T27 x3_1 x18_2).f0) ((rd_T27 x3_1 x18_2).f1) ((rd_T27 x3_1 x18_2).f2)) = some r := by first | (rw [hy436]; with_reducible exact H) | (have H2_ := (Option.bind_some _ _).symm.trans H; rw [hy436]; with_reducible exact H2_) | (have H2_ := (Option.bind_some _ _).symm.trans H; with_reducible exact H2_) | with_reducible exact H | (rw [hy436]; exact H) | exact H
                              have Ny436 := Aside0.mk hy436
                              clear hy436
                              have H' := Aside0.mk H
                              clear H
                              have hcz23_0 : wr.cell? ⟨gb425, 0, none⟩ = some (.slice A424_0 ((rd_T27 x3_1 x18_2).f0).length c424_0) := (blk_cell BK425.out 0).trans rfl
                              have hcz23_1 : wr.cell? ⟨gb425, 1, none⟩ = some (.slice A424_1 ((rd_T27 x3_1 x18_2).f1).length c424_1) := (blk_cell BK425.out 1).trans rfl
                              have hcz23_2 : wr.cell? ⟨gb425, 2, none⟩ = some (.int .i64 ((rd_T27 x3_1 x18_2).f2)) := (blk_cell BK425.out 2).trans rfl
                              have hfz23_0 := blk_frozen BK425.out 0
                              have hfz23_1 := blk_frozen BK425.out 1
                              have hfz23_2 := blk_frozen BK425.out 2
                              go_wp2_with (first | ((with_reducible refine gate_callee (f := 59) rfl ?_); refine goesL_ (some 28) rfl rfl Try.func59 (by kernel_rfl) rfl #[.agg #[.slice A424_0 ((rd_T27 x3_1 x18_2).f0).length c424_0, .slice A424_1 ((rd_T27 x3_1 x18_2).f1).length c424_1, .int .i64 ((rd_T27 x3_1 x18_2).f2)], .int .i64 x22_3] rfl (by (try simp only [List.map_toArray, List.map_cons, List.map_nil]); first | done | rfl) ?_; (with_reducible refine (impl_State_stepped.calls k3 _ _ ((rd_T27 x3_1 x18_2).f0) _ _ ((rd_T27 x3_1 x18_2).f1) ((rd_T27 x3_1 x18_2).f2) x22_3 t426 t429 t432 true _ ?side1 ?side2 ?side3 ?side4 A18.out).mono ?_); (case side1 => repeat (first | exact (Kd.V_reads' HO_426000.out).2.2 | (with_reducible refine Kd.C_alloc ?_ _) | (with_reducible refine Kd.C_drewN ?_ _) | (with_reducible refine Kd.C_drew ?_))); (case side2 => exact (Kd.V_reads' HO_426000.out).2.1); (case side3 => repeat (first | exact (Kd.V_reads' HO_426001.out).2.2 | (with_reducible refine Kd.C_alloc ?_ _) | (with_reducible refine Kd.C_drewN ?_ _) | (with_reducible refine Kd.C_drew ?_))); (case side4 => exact (Kd.V_reads' HO_426001.out).2.1); rintro e w24 ⟨v427, v430, rfl, ho0, ho1, hb⟩; refine ⟨_, rfl, ?_⟩; replace HO_4 := Aside0.mk (Kd.N_mono (Kd.N_told (Kd.N_told (Kd.N_old (by (with_reducible repeat (first | apply Kd.N_alloc | apply Kd.N_drewN | apply Kd.N_drew)); exact HO_4.out) hb) (Kd.R_base ho0)) (Kd.R_base ho1)) (fun _ h_ => h_.1)); replace HO_16 := Aside0.mk (Kd.N_mono (Kd.N_told (Kd.N_told (Kd.N_old (by (with_reducible repeat (first | apply Kd.N_alloc | apply Kd.N_drewN | apply Kd.N_drew)); exact HO_16.out) hb) (Kd.R_base ho0)) (Kd.R_base ho1)) (fun _ h_ => h_.1)); replace HO_426000 := Aside0.mk (Kd.V_mono (Kd.V_told (Kd.V_told (Kd.V_old (by (with_reducible repeat (first | apply Kd.V_alloc | apply Kd.V_drewN | apply Kd.V_drew)); exact HO_426000.out) hb) (Kd.R_base ho0)) (Kd.R_base ho1)) (fun _ h_ => h_.1)); replace HO_426001 := Aside0.mk (Kd.V_mono (Kd.V_told (Kd.V_told (Kd.V_old (by (with_reducible repeat (first | apply Kd.V_alloc | apply Kd.V_drewN | apply Kd.V_drew)); exact HO_426001.out) hb) (Kd.R_base ho0)) (Kd.R_base ho1)) (fun _ h_ => h_.1)); have HO428 := Aside0.mk (Kd.R_lower (Kd.R_newM (M := fun k_ => (w.heap.size ≤ k_)) ho0 (below_size (by repeat (with_reducible first | exact HB.out | apply bA | apply bN | apply bD | refine below_set ?_ GE425.out))) (fun k_ h_ => h_)) (below_size (by repeat (with_reducible first | exact HB.out | apply bA | apply bN | apply bD | refine below_set ?_ GE425.out)))); have HO431 := Aside0.mk (Kd.R_lower (Kd.R_newM (M := fun k_ => (w.heap.size ≤ k_)) ho1 (below_size (by repeat (with_reducible first | exact HB.out | apply bA | apply bN | apply bD | refine below_set ?_ GE425.out))) (fun k_ h_ => h_)) (below_size (by repeat (with_reducible first | exact HB.out | apply bA | apply bN | apply bD | refine below_set ?_ GE425.out)))); replace BK425 := Aside0.mk (blk_below (g := gb425) (o := .cells #[.slice A424_0 ((rd_T27 x3_1 x18_2).f0).length c424_0, .slice A424_1 ((rd_T27 x3_1 x18_2).f1).length c424_1, .int .i64 ((rd_T27 x3_1 x18_2).f2)] 27 (0, 0)) (by (with_reducible repeat (first | refine blk_drewN ?_ _ | refine blk_drew ?_ | refine blk_alloc ?_ _)); exact BK425.out) hb); replace HB := Aside0.mk (below_step (by repeat (with_reducible first | exact HB.out | apply bA | apply bN | apply bD | refine below_set ?_ GE425.out)) hb); (try clear hb); (try clear hb2); (try clear hk); (try clear hi); (try clear ho0); (try clear ho1)) | ((with_reducible refine gate_dst (N := 8) rfl ?_); refine box_event ?hg (N := 8) ?hd (cs := #[.slice none 0 0, .slice none 0 0, .int .i64 0]) (t := 27) ?hr ?_; (case hd => rfl); (case hg => rfl); (case hr => first | (go_simp; done) | (go_simp; rfl)); intro gb434 hg w25 hbox hb; replace HO_4 := Aside0.mk (Kd.N_below (Kd.N_elderB (by (with_reducible repeat (first | apply Kd.N_alloc | apply Kd.N_drewN | apply Kd.N_drew)); exact HO_4.out) gb434 (Nat.le_of_eq hg.symm)) hb); replace HO_16 := Aside0.mk (Kd.N_below (Kd.N_elderB (by (with_reducible repeat (first | apply Kd.N_alloc | apply Kd.N_drewN | apply Kd.N_drew)); exact HO_16.out) gb434 (Nat.le_of_eq hg.symm)) hb); replace HO_426000 := Aside0.mk (Kd.V_below (Kd.V_elderB (by (with_reducible repeat (first | apply Kd.V_alloc | apply Kd.V_drewN | apply Kd.V_drew)); exact HO_426000.out) gb434 (Nat.le_of_eq hg.symm)) hb); replace HO_426001 := Aside0.mk (Kd.V_below (Kd.V_elderB (by (with_reducible repeat (first | apply Kd.V_alloc | apply Kd.V_drewN | apply Kd.V_drew)); exact HO_426001.out) gb434 (Nat.le_of_eq hg.symm)) hb); replace HO428 := Aside0.mk (Kd.R_below (by (with_reducible repeat (first | apply rA | apply rN | apply rD)); exact HO428.out) hb); replace HO431 := Aside0.mk (Kd.R_below (by (with_reducible repeat (first | apply rA | apply rN | apply rD)); exact HO431.out) hb); have BK434 := Aside0.mk (hbox); have GW434 := Aside0.mk ((by rw [hg]; exact (below_size (by repeat (with_reducible first | exact HB.out | apply bA | apply bN | apply bD | refine below_set ?_ GE425.out))) : w.heap.size ≤ gb434)); have GE434 := Aside0.mk ((by rw [hg]; exact (below_size (by repeat (with_reducible first | exact HB.out | apply bA | apply bN | apply bD | refine below_set ?_ GE425.out))) : w.heap.size ≤ gb434)); replace HB := Aside0.mk (below_step (by repeat (with_reducible first | exact HB.out | apply bA | apply bN | apply bD | refine below_set ?_ GE425.out)) hb); have NB425_434 := Aside0.mk ((by rw [hg]; exact Nat.ne_of_lt (blk_lt (g := gb425) (o := .cells #[.slice A424_0 ((rd_T27 x3_1 x18_2).f0).length c424_0, .slice A424_1 ((rd_T27 x3_1 x18_2).f1).length c424_1, .int .i64 ((rd_T27 x3_1 x18_2).f2)] 27 (0, 0)) (by (with_reducible repeat (first | refine blk_drewN ?_ _ | refine blk_drew ?_ | refine blk_alloc ?_ _)); exact BK425.out)) : gb425 ≠ gb434)); have NB434_425 := Aside0.mk ((by rw [hg]; exact Nat.ne_of_gt (blk_lt (g := gb425) (o := .cells #[.slice A424_0 ((rd_T27 x3_1 x18_2).f0).length c424_0, .slice A424_1 ((rd_T27 x3_1 x18_2).f1).length c424_1, .int .i64 ((rd_T27 x3_1 x18_2).f2)] 27 (0, 0)) (by (with_reducible repeat (first | refine blk_drewN ?_ _ | refine blk_drew ?_ | refine blk_alloc ?_ _)); exact BK425.out)) : gb434 ≠ gb425)); replace BK425 := Aside0.mk (blk_below (g := gb425) (o := .cells #[.slice A424_0 ((rd_T27 x3_1 x18_2).f0).length c424_0, .slice A424_1 ((rd_T27 x3_1 x18_2).f1).length c424_1, .int .i64 ((rd_T27 x3_1 x18_2).f2)] 27 (0, 0)) (by (with_reducible repeat (first | refine blk_drewN ?_ _ | refine blk_drew ?_ | refine blk_alloc ?_ _)); exact BK425.out) hb); clear hb hbox hg; obtain ⟨Ao26, co26, eo26⟩ := Kd.R_slice HO428.out; subst eo26; have hnb27 := NB434_425.out; have hnc27 := NB425_434.out; have hcz28_0 : w25.cell? ⟨gb434, 0, none⟩ = some (.slice none 0 0) := (blk_cell BK434.out 0).trans rfl; have hcz28_1 : w25.cell? ⟨gb434, 1, none⟩ = some (.slice none 0 0) := (blk_cell BK434.out 1).trans rfl; have hcz28_2 : w25.cell? ⟨gb434, 2, none⟩ = some (.int .i64 0) := (blk_cell BK434.out 2).trans rfl; have hfz28_0 := blk_frozen BK434.out 0; have hfz28_1 := blk_frozen BK434.out 1; have hfz28_2 := blk_frozen BK434.out 2; obtain ⟨Ao29, co29, eo29⟩ := Kd.R_slice HO431.out; subst eo29) | ((with_reducible refine gate_store (t := 27) (p := 8) rfl ?_); refine store_event (t := 27) (p := 8) (v := ?vo_w30) (w1 := (((w25.setCell ⟨gb434, 0, none⟩ (.slice Ao26 t426.length co26)).setCell ⟨gb434, 1, none⟩ (.slice Ao29 t429.length co29)).setCell ⟨gb434, 2, none⟩ (.int .i64 t432))) ?hg ?ho ?hn ?hr ?_; (case ho => rfl); (case hg => rfl); (case hn => rfl); (case hr => first | (go_simp; done) | (go_simp; rfl)); intro w30 hw; have hb : Below (((w25.setCell ⟨gb434, 0, none⟩ (.slice Ao26 t426.length co26)).setCell ⟨gb434, 1, none⟩ (.slice Ao29 t429.length co29)).setCell ⟨gb434, 2, none⟩ (.int .i64 t432)).heap.size (((w25.setCell ⟨gb434, 0, none⟩ (.slice Ao26 t426.length co26)).setCell ⟨gb434, 1, none⟩ (.slice Ao29 t429.length co29)).setCell ⟨gb434, 2, none⟩ (.int .i64 t432)) w30 := (by rw [hw]; exact Below.refl _ _); clear hw; replace HO_4 := Aside0.mk (Kd.N_below (by (with_reducible repeat (first | apply Kd.N_alloc | apply Kd.N_drewN | apply Kd.N_drew)); exact (Kd.N_mono (Kd.N_far (p := ⟨gb434, 2, none⟩) (Kd.N_far (p := ⟨gb434, 1, none⟩) (Kd.N_far (p := ⟨gb434, 0, none⟩) (Kd.N_mono HO_4.out (fun k_ hk => (⟨hk, hk.2⟩ : _ ∧ k_ ≠ gb434))) (fun _ hk => hk.2) (.slice Ao26 t426.length co26)) (fun _ hk => hk.2) (.slice Ao29 t429.length co29)) (fun _ hk => hk.2) (.int .i64 t432)) (fun _ h_ => h_.1))) hb); replace HO_16 := Aside0.mk (Kd.N_below (by (with_reducible repeat (first | apply Kd.N_alloc | apply Kd.N_drewN | apply Kd.N_drew)); exact (Kd.N_mono (Kd.N_far (p := ⟨gb434, 2, none⟩) (Kd.N_far (p := ⟨gb434, 1, none⟩) (Kd.N_far (p := ⟨gb434, 0, none⟩) (Kd.N_mono HO_16.out (fun k_ hk => (⟨hk, hk.2⟩ : _ ∧ k_ ≠ gb434))) (fun _ hk => hk.2) (.slice Ao26 t426.length co26)) (fun _ hk => hk.2) (.slice Ao29 t429.length co29)) (fun _ hk => hk.2) (.int .i64 t432)) (fun _ h_ => h_.1))) hb); replace HO_426000 := Aside0.mk (Kd.V_below (by (with_reducible repeat (first | apply Kd.V_alloc | apply Kd.V_drewN | apply Kd.V_drew)); exact (Kd.V_mono (Kd.V_far (p := ⟨gb434, 2, none⟩) (Kd.V_far (p := ⟨gb434, 1, none⟩) (Kd.V_far (p := ⟨gb434, 0, none⟩) (Kd.V_mono HO_426000.out (fun k_ hk => (⟨hk, hk.2⟩ : _ ∧ k_ ≠ gb434))) (fun _ hk => hk.2) (.slice Ao26 t426.length co26)) (fun _ hk => hk.2) (.slice Ao29 t429.length co29)) (fun _ hk => hk.2) (.int .i64 t432)) (fun _ h_ => h_.1))) hb); replace HO_426001 := Aside0.mk (Kd.V_below (by (with_reducible repeat (first | apply Kd.V_alloc | apply Kd.V_drewN | apply Kd.V_drew)); exact (Kd.V_mono (Kd.V_far (p := ⟨gb434, 2, none⟩) (Kd.V_far (p := ⟨gb434, 1, none⟩) (Kd.V_far (p := ⟨gb434, 0, none⟩) (Kd.V_mono HO_426001.out (fun k_ hk => (⟨hk, hk.2⟩ : _ ∧ k_ ≠ gb434))) (fun _ hk => hk.2) (.slice Ao26 t426.length co26)) (fun _ hk => hk.2) (.slice Ao29 t429.length co29)) (fun _ hk => hk.2) (.int .i64 t432)) (fun _ h_ => h_.1))) hb); replace HO428 := Aside0.mk (Kd.R_below (by (with_reducible repeat (first | apply rA | apply rN | apply rD)); exact (Kd.R_mono (Kd.R_far (p := ⟨gb434, 2, none⟩) (Kd.R_far (p := ⟨gb434, 1, none⟩) (Kd.R_far (p := ⟨gb434, 0, none⟩) (Kd.R_types HO428.out BK434.out (by decide)) (fun _ hk => hk.2) (.slice Ao26 t426.length co26)) (fun _ hk => hk.2) (.slice Ao29 t429.length co29)) (fun _ hk => hk.2) (.int .i64 t432)) (fun _ h_ => h_.1))) hb); replace HO431 := Aside0.mk (Kd.R_below (by (with_reducible repeat (first | apply rA | apply rN | apply rD)); exact (Kd.R_mono (Kd.R_far (p := ⟨gb434, 2, none⟩) (Kd.R_far (p := ⟨gb434, 1, none⟩) (Kd.R_far (p := ⟨gb434, 0, none⟩) (Kd.R_types HO431.out BK434.out (by decide)) (fun _ hk => hk.2) (.slice Ao26 t426.length co26)) (fun _ hk => hk.2) (.slice Ao29 t429.length co29)) (fun _ hk => hk.2) (.int .i64 t432)) (fun _ h_ => h_.1))) hb); replace BK425 := Aside0.mk (blk_below (g := gb425) (o := .cells #[.slice A424_0 ((rd_T27 x3_1 x18_2).f0).length c424_0, .slice A424_1 ((rd_T27 x3_1 x18_2).f1).length c424_1, .int .i64 ((rd_T27 x3_1 x18_2).f2)] 27 (0, 0)) (by (with_reducible repeat (first | refine blk_drewN ?_ _ | refine blk_drew ?_ | refine blk_alloc ?_ _)); refine blk_far ?_ NB425_434.out _; (with_reducible repeat (first | refine blk_drewN ?_ _ | refine blk_drew ?_ | refine blk_alloc ?_ _)); refine blk_far ?_ NB425_434.out _; (with_reducible repeat (first | refine blk_drewN ?_ _ | refine blk_drew ?_ | refine blk_alloc ?_ _)); refine blk_far ?_ NB425_434.out _; (with_reducible repeat (first | refine blk_drewN ?_ _ | refine blk_drew ?_ | refine blk_alloc ?_ _)); exact BK425.out) hb); replace BK434 := Aside0.mk (blk_below (g := gb434) (o := .cells #[.slice Ao26 t426.length co26, .slice Ao29 t429.length co29, .int .i64 t432] 27 (0, 0)) (by (with_reducible repeat (first | refine blk_drewN ?_ _ | refine blk_drew ?_ | refine blk_alloc ?_ _)); refine blk_put (cs := #[.slice Ao26 t426.length co26, .slice Ao29 t429.length co29, .int .i64 0]) ?_ 2 _ rfl; (with_reducible repeat (first | refine blk_drewN ?_ _ | refine blk_drew ?_ | refine blk_alloc ?_ _)); refine blk_put (cs := #[.slice Ao26 t426.length co26, .slice none 0 0, .int .i64 0]) ?_ 1 _ rfl; (with_reducible repeat (first | refine blk_drewN ?_ _ | refine blk_drew ?_ | refine blk_alloc ?_ _)); refine blk_put (cs := #[.slice none 0 0, .slice none 0 0, .int .i64 0]) ?_ 0 _ rfl; (with_reducible repeat (first | refine blk_drewN ?_ _ | refine blk_drew ?_ | refine blk_alloc ?_ _)); exact BK434.out) hb); replace HB := Aside0.mk (below_step (by repeat (with_reducible first | exact HB.out | apply bA | apply bN | apply bD | refine below_set ?_ GE425.out | refine below_set ?_ GE434.out)) hb); (try clear hb); (try clear hb2); (try clear hk); (try clear hi); have hcz31_0 : w30.cell? ⟨gb434, 0, none⟩ = some (.slice Ao26 t426.length co26) := (blk_cell BK434.out 0).trans rfl; have hcz31_1 : w30.cell? ⟨gb434, 1, none⟩ = some (.slice Ao29 t429.length co29) := (blk_cell BK434.out 1).trans rfl; have hcz31_2 : w30.cell? ⟨gb434, 2, none⟩ = some (.int .i64 t432) := (blk_cell BK434.out 2).trans rfl; have hfz31_0 := blk_frozen BK434.out 0; have hfz31_1 := blk_frozen BK434.out 1; have hfz31_2 := blk_frozen BK434.out 2) | ((with_reducible refine gate_builtin (b := .append) (xs := #[.tmp 37, .tmp 39]) rfl ?_); at_builtin; refine Kd.N_append k27 (w0 := w) w.heap.size rfl (.tmp 37) (.tmp 39) 49 27 (.agg #[(.slice none 0 0), (.slice none 0 0), (.int .i64 0)]) 56 rfl Try.underlying49 info27 rfl (by decide) (by omega) u4 x4_3 (⟨t426, t429, t432⟩ : S27) [.slice Ao26 t426.length co26, .slice Ao29 t429.length co29, .int .i64 t432] (fun k_ => (w.heap.size ≤ k_) ∧ some k_ ≠ (.slice (some ad424) x3_1.length co11 : Value).ownBlock ∧ k_ ≠ gb425 ∧ k_ ≠ gb434) (fun k_ => ((fun k_ => (w.heap.size ≤ k_) ∧ some k_ ≠ (.slice (some ad424) x3_1.length co11 : Value).ownBlock ∧ k_ ≠ gb425 ∧ k_ ≠ gb434)) k_ ∧ some k_ ≠ (u4 : Value).ownBlock) rfl rfl ?aP (fun _ hk => hk) ?aF ?aO ?aB ?aS ?aL ?_; (case aP => exact (k27_mkF _ _ (⟨t426, t429, t432⟩ : S27) (Kd.R_reads' (Kd.R_mono (ok' := (fun k_ => ((fun k_ => (w.heap.size ≤ k_) ∧ some k_ ≠ (.slice (some ad424) x3_1.length co11 : Value).ownBlock ∧ k_ ≠ gb425 ∧ k_ ≠ gb434)) k_ ∧ some k_ ≠ (u4 : Value).ownBlock)) (Kd.R_types (Kd.R_types (Kd.R_apart' (Kd.R_apart' (HO428.out) (Kd.N_typed HO_16.out) (by decide)) (Kd.N_typed HO_4.out) (by decide)) BK425.out (by decide)) BK434.out (by decide)) (fun k_ hk => ⟨⟨hk.1.1.1.1.1, ⟨hk.1.1.1.2, ⟨hk.1.2, hk.2⟩⟩⟩, hk.1.1.2⟩))).2.1 (Kd.R_F (Kd.R_mono (ok' := (fun k_ => ((fun k_ => (w.heap.size ≤ k_) ∧ some k_ ≠ (.slice (some ad424) x3_1.length co11 : Value).ownBlock ∧ k_ ≠ gb425 ∧ k_ ≠ gb434)) k_ ∧ some k_ ≠ (u4 : Value).ownBlock)) (Kd.R_types (Kd.R_types (Kd.R_apart' (Kd.R_apart' (HO428.out) (Kd.N_typed HO_16.out) (by decide)) (Kd.N_typed HO_4.out) (by decide)) BK425.out (by decide)) BK434.out (by decide)) (fun k_ hk => ⟨⟨hk.1.1.1.1.1, ⟨hk.1.1.1.2, ⟨hk.1.2, hk.2⟩⟩⟩, hk.1.1.2⟩))) (Kd.R_reads' (Kd.R_mono (ok' := (fun k_ => ((fun k_ => (w.heap.size ≤ k_) ∧ some k_ ≠ (.slice (some ad424) x3_1.length co11 : Value).ownBlock ∧ k_ ≠ gb425 ∧ k_ ≠ gb434)) k_ ∧ some k_ ≠ (u4 : Value).ownBlock)) (Kd.R_types (Kd.R_types (Kd.R_apart' (Kd.R_apart' (HO431.out) (Kd.N_typed HO_16.out) (by decide)) (Kd.N_typed HO_4.out) (by decide)) BK425.out (by decide)) BK434.out (by decide)) (fun k_ hk => ⟨⟨hk.1.1.1.1.1, ⟨hk.1.1.1.2, ⟨hk.1.2, hk.2⟩⟩⟩, hk.1.1.2⟩))).2.1 (Kd.R_F (Kd.R_mono (ok' := (fun k_ => ((fun k_ => (w.heap.size ≤ k_) ∧ some k_ ≠ (.slice (some ad424) x3_1.length co11 : Value).ownBlock ∧ k_ ≠ gb425 ∧ k_ ≠ gb434)) k_ ∧ some k_ ≠ (u4 : Value).ownBlock)) (Kd.R_types (Kd.R_types (Kd.R_apart' (Kd.R_apart' (HO431.out) (Kd.N_typed HO_16.out) (by decide)) (Kd.N_typed HO_4.out) (by decide)) BK425.out (by decide)) BK434.out (by decide)) (fun k_ hk => ⟨⟨hk.1.1.1.1.1, ⟨hk.1.1.1.2, ⟨hk.1.2, hk.2⟩⟩⟩, hk.1.1.2⟩))))); (case aB => exact (by repeat (with_reducible first | exact HB.out | apply bA | apply bN | apply bD | refine below_set ?_ GE425.out | refine below_set ?_ GE434.out))); (case aF => exact (fun k_ hk => ⟨(Nat.le_trans (below_size (by repeat (with_reducible first | exact HB.out | apply bA | apply bN | apply bD | refine below_set ?_ GE425.out | refine below_set ?_ GE434.out))) hk), Kd.fresh' (Kd.N_lt (by (with_reducible repeat (first | apply Kd.N_alloc | apply Kd.N_drewN | apply Kd.N_drew)); exact HO_16.out)) k_ hk, Kd.freshB (g := gb425) (o := .cells #[.slice A424_0 ((rd_T27 x3_1 x18_2).f0).length c424_0, .slice A424_1 ((rd_T27 x3_1 x18_2).f1).length c424_1, .int .i64 ((rd_T27 x3_1 x18_2).f2)] 27 (0, 0)) (by (with_reducible repeat (first | refine blk_drewN ?_ _ | refine blk_drew ?_ | refine blk_alloc ?_ _)); exact BK425.out) k_ hk, Kd.freshB (g := gb434) (o := .cells #[.slice Ao26 t426.length co26, .slice Ao29 t429.length co29, .int .i64 t432] 27 (0, 0)) (by (with_reducible repeat (first | refine blk_drewN ?_ _ | refine blk_drew ?_ | refine blk_alloc ?_ _)); exact BK434.out) k_ hk⟩)); (case aO => exact (by (with_reducible repeat (first | apply Kd.N_alloc | apply Kd.N_drewN | apply Kd.N_drew)); exact Kd.N_mono HO_4.out (fun _ hk => ⟨hk.1.1.1.1, ⟨hk.1.1.1.2.1, ⟨hk.1.1.1.2.2, hk.2⟩⟩⟩))); (case aS => exact (below_size (by repeat (with_reducible first | exact HB.out | apply bA | apply bN | apply bD | refine below_set ?_ GE425.out | refine below_set ?_ GE434.out)))); (case aL => have := LMc22.out; omega); intro v437 w32 ho hb hg hat; rw [← Ny436.out] at ho; replace HO_16 := Aside0.mk (Kd.N_afterv (ok := (fun k_ => (w.heap.size ≤ k_) ∧ some k_ ≠ (.slice Ao26 t426.length co26 : Value).ownBlock ∧ some k_ ≠ (.slice Ao29 t429.length co29 : Value).ownBlock ∧ k_ ≠ gb425 ∧ k_ ≠ gb434)) (by (with_reducible repeat (first | apply Kd.N_alloc | apply Kd.N_drewN | apply Kd.N_drew)); exact Kd.N_mono HO_16.out (fun _ hk => ⟨⟨hk.1.1.1.1, ⟨hk.1.1.2, ⟨hk.1.2, ⟨hk.1.1.1.2.2, hk.2⟩⟩⟩⟩, hk.1.1.1.2.1⟩)) hg hat); replace HO_426000 := Aside0.mk (Kd.V_afterv (ok := (fun k_ => (w.heap.size ≤ k_) ∧ some k_ ≠ (.slice (some ad424) x3_1.length co11 : Value).ownBlock ∧ some k_ ≠ (.slice Ao26 t426.length co26 : Value).ownBlock ∧ some k_ ≠ (.slice Ao29 t429.length co29 : Value).ownBlock ∧ k_ ≠ gb425 ∧ k_ ≠ gb434)) (by (with_reducible repeat (first | apply Kd.V_alloc | apply Kd.V_drewN | apply Kd.V_drew)); exact Kd.V_mono HO_426000.out (fun _ hk => ⟨⟨hk.1.1.1.1, ⟨hk.1.1.1.2.2.1, ⟨hk.1.1.2, ⟨hk.1.2, ⟨hk.1.1.1.2.2.2, hk.2⟩⟩⟩⟩⟩, hk.1.1.1.2.1⟩)) hg hat); replace HO_426001 := Aside0.mk (Kd.V_afterv (ok := (fun k_ => (w.heap.size ≤ k_) ∧ some k_ ≠ (.slice (some ad424) x3_1.length co11 : Value).ownBlock ∧ some k_ ≠ (.slice Ao26 t426.length co26 : Value).ownBlock ∧ some k_ ≠ (.slice Ao29 t429.length co29 : Value).ownBlock ∧ k_ ≠ gb425 ∧ k_ ≠ gb434)) (by (with_reducible repeat (first | apply Kd.V_alloc | apply Kd.V_drewN | apply Kd.V_drew)); exact Kd.V_mono HO_426001.out (fun _ hk => ⟨⟨hk.1.1.1.1, ⟨hk.1.1.1.2.2.1, ⟨hk.1.1.2, ⟨hk.1.2, ⟨hk.1.1.1.2.2.2, hk.2⟩⟩⟩⟩⟩, hk.1.1.1.2.1⟩)) hg hat); replace BK425 := Aside0.mk (blk_grown (g := gb425) (o := .cells #[.slice A424_0 ((rd_T27 x3_1 x18_2).f0).length c424_0, .slice A424_1 ((rd_T27 x3_1 x18_2).f1).length c424_1, .int .i64 ((rd_T27 x3_1 x18_2).f2)] 27 (0, 0)) (by (with_reducible repeat (first | refine blk_drewN ?_ _ | refine blk_drew ?_ | refine blk_alloc ?_ _)); exact BK425.out) hg (Kd.N_away HO_4.out (fun _ hk => hk.1.1.1.2.2))); replace BK434 := Aside0.mk (blk_grown (g := gb434) (o := .cells #[.slice Ao26 t426.length co26, .slice Ao29 t429.length co29, .int .i64 t432] 27 (0, 0)) (by (with_reducible repeat (first | refine blk_drewN ?_ _ | refine blk_drew ?_ | refine blk_alloc ?_ _)); exact BK434.out) hg (Kd.N_away HO_4.out (fun _ hk => hk.2))); replace HB := Aside0.mk (hb); have HO438 := Aside0.mk (ho); clear HO_4 HO428 HO431; clear ho hb hg hat))
                              go_roundg k3
                              case measure => have := HK1.out; have := HK2.out; have := HK3.out; omega
                              case rel => exact ⟨(y436), (wrap64 (x22_3 + 1)), (by first | rfl | (simp; done) | (simp [*]; done)), H', ⟨by have := HK1.out; have := HK2.out; have := HK3.out; omega⟩, ⟨by (with_reducible repeat (first | apply Kd.N_alloc | apply Kd.N_drewN | apply Kd.N_drew)); exact Kd.N_mono HO438.out (fun _ hk => ⟨hk.1, ⟨hk.2.1, hk.2.2.1⟩⟩)⟩, ⟨by (with_reducible repeat (first | apply Kd.N_alloc | apply Kd.N_drewN | apply Kd.N_drew)); exact Kd.N_mono HO_16.out (fun _ hk => ⟨hk.1.1, ⟨hk.2, hk.1.2.2.2.1⟩⟩)⟩, ⟨by (with_reducible repeat (first | apply Kd.V_alloc | apply Kd.V_drewN | apply Kd.V_drew)); exact Kd.V_mono HO_426000.out (fun _ hk => ⟨hk.1.1, ⟨hk.2, ⟨hk.1.2.1, hk.1.2.2.2.2.1⟩⟩⟩)⟩, ⟨by (with_reducible repeat (first | apply Kd.V_alloc | apply Kd.V_drewN | apply Kd.V_drew)); exact Kd.V_mono HO_426001.out (fun _ hk => ⟨hk.1.1, ⟨hk.2, ⟨hk.1.2.1, hk.1.2.2.2.2.1⟩⟩⟩)⟩, ⟨by (with_reducible repeat (first | refine blk_drewN ?_ _ | refine blk_drew ?_ | refine blk_alloc ?_ _)); exact BK425.out⟩, ⟨by repeat (with_reducible first | exact HB.out | apply bA | apply bN | apply bD | refine below_set ?_ GE425.out | refine below_set ?_ GE434.out)⟩⟩
                            · rw [if_neg c22] at H
                              exact absurd H (by simp)
                          · rw [if_neg c20] at H
                            have c20b0 : (t432 == 0) = false := beq_eq_false_iff_ne.mpr c20
                            have c20b1 : (t432 != 0) = true := bne_iff_ne.mpr c20
                            have H' := Aside0.mk H
                            clear H
                            have hcz33_0 : wr.cell? ⟨gb425, 0, none⟩ = some (.slice A424_0 ((rd_T27 x3_1 x18_2).f0).length c424_0) := (blk_cell BK425.out 0).trans rfl
                            have hcz33_1 : wr.cell? ⟨gb425, 1, none⟩ = some (.slice A424_1 ((rd_T27 x3_1 x18_2).f1).length c424_1) := (blk_cell BK425.out 1).trans rfl
                            have hcz33_2 : wr.cell? ⟨gb425, 2, none⟩ = some (.int .i64 ((rd_T27 x3_1 x18_2).f2)) := (blk_cell BK425.out 2).trans rfl
                            have hfz33_0 := blk_frozen BK425.out 0
                            have hfz33_1 := blk_frozen BK425.out 1
                            have hfz33_2 := blk_frozen BK425.out 2
                            go_wp2_with (first | ((with_reducible refine gate_callee (f := 59) rfl ?_); refine goesL_ (some 28) rfl rfl Try.func59 (by kernel_rfl) rfl #[.agg #[.slice A424_0 ((rd_T27 x3_1 x18_2).f0).length c424_0, .slice A424_1 ((rd_T27 x3_1 x18_2).f1).length c424_1, .int .i64 ((rd_T27 x3_1 x18_2).f2)], .int .i64 x22_3] rfl (by (try simp only [List.map_toArray, List.map_cons, List.map_nil]); first | done | rfl) ?_; (with_reducible refine (impl_State_stepped.calls k3 _ _ ((rd_T27 x3_1 x18_2).f0) _ _ ((rd_T27 x3_1 x18_2).f1) ((rd_T27 x3_1 x18_2).f2) x22_3 t426 t429 t432 true _ ?side1 ?side2 ?side3 ?side4 A18.out).mono ?_); (case side1 => repeat (first | exact (Kd.V_reads' HO_426000.out).2.2 | (with_reducible refine Kd.C_alloc ?_ _) | (with_reducible refine Kd.C_drewN ?_ _) | (with_reducible refine Kd.C_drew ?_))); (case side2 => exact (Kd.V_reads' HO_426000.out).2.1); (case side3 => repeat (first | exact (Kd.V_reads' HO_426001.out).2.2 | (with_reducible refine Kd.C_alloc ?_ _) | (with_reducible refine Kd.C_drewN ?_ _) | (with_reducible refine Kd.C_drew ?_))); (case side4 => exact (Kd.V_reads' HO_426001.out).2.1); rintro e w34 ⟨v427, v430, rfl, ho0, ho1, hb⟩; refine ⟨_, rfl, ?_⟩; replace HO_4 := Aside0.mk (Kd.N_mono (Kd.N_told (Kd.N_told (Kd.N_old (by (with_reducible repeat (first | apply Kd.N_alloc | apply Kd.N_drewN | apply Kd.N_drew)); exact HO_4.out) hb) (Kd.R_base ho0)) (Kd.R_base ho1)) (fun _ h_ => h_.1)); replace HO_16 := Aside0.mk (Kd.N_mono (Kd.N_told (Kd.N_told (Kd.N_old (by (with_reducible repeat (first | apply Kd.N_alloc | apply Kd.N_drewN | apply Kd.N_drew)); exact HO_16.out) hb) (Kd.R_base ho0)) (Kd.R_base ho1)) (fun _ h_ => h_.1)); replace HO_426000 := Aside0.mk (Kd.V_mono (Kd.V_told (Kd.V_told (Kd.V_old (by (with_reducible repeat (first | apply Kd.V_alloc | apply Kd.V_drewN | apply Kd.V_drew)); exact HO_426000.out) hb) (Kd.R_base ho0)) (Kd.R_base ho1)) (fun _ h_ => h_.1)); replace HO_426001 := Aside0.mk (Kd.V_mono (Kd.V_told (Kd.V_told (Kd.V_old (by (with_reducible repeat (first | apply Kd.V_alloc | apply Kd.V_drewN | apply Kd.V_drew)); exact HO_426001.out) hb) (Kd.R_base ho0)) (Kd.R_base ho1)) (fun _ h_ => h_.1)); have HO428 := Aside0.mk (Kd.R_lower (Kd.R_newM (M := fun k_ => (w.heap.size ≤ k_)) ho0 (below_size (by repeat (with_reducible first | exact HB.out | apply bA | apply bN | apply bD | refine below_set ?_ GE425.out))) (fun k_ h_ => h_)) (below_size (by repeat (with_reducible first | exact HB.out | apply bA | apply bN | apply bD | refine below_set ?_ GE425.out)))); have HO431 := Aside0.mk (Kd.R_lower (Kd.R_newM (M := fun k_ => (w.heap.size ≤ k_)) ho1 (below_size (by repeat (with_reducible first | exact HB.out | apply bA | apply bN | apply bD | refine below_set ?_ GE425.out))) (fun k_ h_ => h_)) (below_size (by repeat (with_reducible first | exact HB.out | apply bA | apply bN | apply bD | refine below_set ?_ GE425.out)))); replace BK425 := Aside0.mk (blk_below (g := gb425) (o := .cells #[.slice A424_0 ((rd_T27 x3_1 x18_2).f0).length c424_0, .slice A424_1 ((rd_T27 x3_1 x18_2).f1).length c424_1, .int .i64 ((rd_T27 x3_1 x18_2).f2)] 27 (0, 0)) (by (with_reducible repeat (first | refine blk_drewN ?_ _ | refine blk_drew ?_ | refine blk_alloc ?_ _)); exact BK425.out) hb); replace HB := Aside0.mk (below_step (by repeat (with_reducible first | exact HB.out | apply bA | apply bN | apply bD | refine below_set ?_ GE425.out)) hb); (try clear hb); (try clear hb2); (try clear hk); (try clear hi); (try clear ho0); (try clear ho1)) | ((with_reducible refine gate_dst (N := 8) rfl ?_); refine box_event ?hg (N := 8) ?hd (cs := #[.slice none 0 0, .slice none 0 0, .int .i64 0]) (t := 27) ?hr ?_; (case hd => rfl); (case hg => rfl); (case hr => first | (go_simp; done) | (go_simp; rfl)); intro gb434 hg w35 hbox hb; replace HO_4 := Aside0.mk (Kd.N_below (Kd.N_elderB (by (with_reducible repeat (first | apply Kd.N_alloc | apply Kd.N_drewN | apply Kd.N_drew)); exact HO_4.out) gb434 (Nat.le_of_eq hg.symm)) hb); replace HO_16 := Aside0.mk (Kd.N_below (Kd.N_elderB (by (with_reducible repeat (first | apply Kd.N_alloc | apply Kd.N_drewN | apply Kd.N_drew)); exact HO_16.out) gb434 (Nat.le_of_eq hg.symm)) hb); replace HO_426000 := Aside0.mk (Kd.V_below (Kd.V_elderB (by (with_reducible repeat (first | apply Kd.V_alloc | apply Kd.V_drewN | apply Kd.V_drew)); exact HO_426000.out) gb434 (Nat.le_of_eq hg.symm)) hb); replace HO_426001 := Aside0.mk (Kd.V_below (Kd.V_elderB (by (with_reducible repeat (first | apply Kd.V_alloc | apply Kd.V_drewN | apply Kd.V_drew)); exact HO_426001.out) gb434 (Nat.le_of_eq hg.symm)) hb); replace HO428 := Aside0.mk (Kd.R_below (by (with_reducible repeat (first | apply rA | apply rN | apply rD)); exact HO428.out) hb); replace HO431 := Aside0.mk (Kd.R_below (by (with_reducible repeat (first | apply rA | apply rN | apply rD)); exact HO431.out) hb); have BK434 := Aside0.mk (hbox); have GW434 := Aside0.mk ((by rw [hg]; exact (below_size (by repeat (with_reducible first | exact HB.out | apply bA | apply bN | apply bD | refine below_set ?_ GE425.out))) : w.heap.size ≤ gb434)); have GE434 := Aside0.mk ((by rw [hg]; exact (below_size (by repeat (with_reducible first | exact HB.out | apply bA | apply bN | apply bD | refine below_set ?_ GE425.out))) : w.heap.size ≤ gb434)); replace HB := Aside0.mk (below_step (by repeat (with_reducible first | exact HB.out | apply bA | apply bN | apply bD | refine below_set ?_ GE425.out)) hb); have NB425_434 := Aside0.mk ((by rw [hg]; exact Nat.ne_of_lt (blk_lt (g := gb425) (o := .cells #[.slice A424_0 ((rd_T27 x3_1 x18_2).f0).length c424_0, .slice A424_1 ((rd_T27 x3_1 x18_2).f1).length c424_1, .int .i64 ((rd_T27 x3_1 x18_2).f2)] 27 (0, 0)) (by (with_reducible repeat (first | refine blk_drewN ?_ _ | refine blk_drew ?_ | refine blk_alloc ?_ _)); exact BK425.out)) : gb425 ≠ gb434)); have NB434_425 := Aside0.mk ((by rw [hg]; exact Nat.ne_of_gt (blk_lt (g := gb425) (o := .cells #[.slice A424_0 ((rd_T27 x3_1 x18_2).f0).length c424_0, .slice A424_1 ((rd_T27 x3_1 x18_2).f1).length c424_1, .int .i64 ((rd_T27 x3_1 x18_2).f2)] 27 (0, 0)) (by (with_reducible repeat (first | refine blk_drewN ?_ _ | refine blk_drew ?_ | refine blk_alloc ?_ _)); exact BK425.out)) : gb434 ≠ gb425)); replace BK425 := Aside0.mk (blk_below (g := gb425) (o := .cells #[.slice A424_0 ((rd_T27 x3_1 x18_2).f0).length c424_0, .slice A424_1 ((rd_T27 x3_1 x18_2).f1).length c424_1, .int .i64 ((rd_T27 x3_1 x18_2).f2)] 27 (0, 0)) (by (with_reducible repeat (first | refine blk_drewN ?_ _ | refine blk_drew ?_ | refine blk_alloc ?_ _)); exact BK425.out) hb); clear hb hbox hg; obtain ⟨Ao36, co36, eo36⟩ := Kd.R_slice HO428.out; subst eo36; have hnb37 := NB434_425.out; have hnc37 := NB425_434.out; have hcz38_0 : w35.cell? ⟨gb434, 0, none⟩ = some (.slice none 0 0) := (blk_cell BK434.out 0).trans rfl; have hcz38_1 : w35.cell? ⟨gb434, 1, none⟩ = some (.slice none 0 0) := (blk_cell BK434.out 1).trans rfl; have hcz38_2 : w35.cell? ⟨gb434, 2, none⟩ = some (.int .i64 0) := (blk_cell BK434.out 2).trans rfl; have hfz38_0 := blk_frozen BK434.out 0; have hfz38_1 := blk_frozen BK434.out 1; have hfz38_2 := blk_frozen BK434.out 2; obtain ⟨Ao39, co39, eo39⟩ := Kd.R_slice HO431.out; subst eo39))
                            go_roundg k3
                            case measure => have := HK1.out; have := HK2.out; have := HK3.out; omega
                            case rel => exact ⟨(x4_3), (wrap64 (x22_3 + 1)), (by first | rfl | (simp; done) | (simp [*]; done)), H', ⟨by have := HK1.out; have := HK2.out; have := HK3.out; omega⟩, ⟨by (with_reducible repeat (first | apply Kd.N_alloc | apply Kd.N_drewN | apply Kd.N_drew)); exact Kd.N_mono (Kd.N_far (p := ⟨gb434, 2, none⟩) (Kd.N_far (p := ⟨gb434, 1, none⟩) (Kd.N_far (p := ⟨gb434, 0, none⟩) (Kd.N_mono HO_4.out (fun k_ hk => (⟨hk, hk.2⟩ : _ ∧ k_ ≠ gb434))) (fun _ hk => hk.2) (.slice Ao36 t426.length co36)) (fun _ hk => hk.2) (.slice Ao39 t429.length co39)) (fun _ hk => hk.2) (.int .i64 t432)) (fun _ hk => ⟨hk.1.1.1.1.1, ⟨hk.1.1.1.1.2.1, hk.1.1.1.1.2.2⟩⟩)⟩, ⟨by (with_reducible repeat (first | apply Kd.N_alloc | apply Kd.N_drewN | apply Kd.N_drew)); exact Kd.N_mono (Kd.N_far (p := ⟨gb434, 2, none⟩) (Kd.N_far (p := ⟨gb434, 1, none⟩) (Kd.N_far (p := ⟨gb434, 0, none⟩) (Kd.N_mono HO_16.out (fun k_ hk => (⟨hk, hk.2⟩ : _ ∧ k_ ≠ gb434))) (fun _ hk => hk.2) (.slice Ao36 t426.length co36)) (fun _ hk => hk.2) (.slice Ao39 t429.length co39)) (fun _ hk => hk.2) (.int .i64 t432)) (fun _ hk => ⟨hk.1.1.1.1.1, ⟨hk.1.1.1.1.2.1, hk.1.1.1.1.2.2⟩⟩)⟩, ⟨by (with_reducible repeat (first | apply Kd.V_alloc | apply Kd.V_drewN | apply Kd.V_drew)); exact Kd.V_mono (Kd.V_far (p := ⟨gb434, 2, none⟩) (Kd.V_far (p := ⟨gb434, 1, none⟩) (Kd.V_far (p := ⟨gb434, 0, none⟩) (Kd.V_mono HO_426000.out (fun k_ hk => (⟨hk, hk.2⟩ : _ ∧ k_ ≠ gb434))) (fun _ hk => hk.2) (.slice Ao36 t426.length co36)) (fun _ hk => hk.2) (.slice Ao39 t429.length co39)) (fun _ hk => hk.2) (.int .i64 t432)) (fun _ hk => ⟨hk.1.1.1.1.1, ⟨hk.1.1.1.1.2.1, ⟨hk.1.1.1.1.2.2.1, hk.1.1.1.1.2.2.2⟩⟩⟩)⟩, ⟨by (with_reducible repeat (first | apply Kd.V_alloc | apply Kd.V_drewN | apply Kd.V_drew)); exact Kd.V_mono (Kd.V_far (p := ⟨gb434, 2, none⟩) (Kd.V_far (p := ⟨gb434, 1, none⟩) (Kd.V_far (p := ⟨gb434, 0, none⟩) (Kd.V_mono HO_426001.out (fun k_ hk => (⟨hk, hk.2⟩ : _ ∧ k_ ≠ gb434))) (fun _ hk => hk.2) (.slice Ao36 t426.length co36)) (fun _ hk => hk.2) (.slice Ao39 t429.length co39)) (fun _ hk => hk.2) (.int .i64 t432)) (fun _ hk => ⟨hk.1.1.1.1.1, ⟨hk.1.1.1.1.2.1, ⟨hk.1.1.1.1.2.2.1, hk.1.1.1.1.2.2.2⟩⟩⟩)⟩, ⟨by (with_reducible repeat (first | refine blk_drewN ?_ _ | refine blk_drew ?_ | refine blk_alloc ?_ _)); refine blk_far ?_ NB425_434.out _; (with_reducible repeat (first | refine blk_drewN ?_ _ | refine blk_drew ?_ | refine blk_alloc ?_ _)); refine blk_far ?_ NB425_434.out _; (with_reducible repeat (first | refine blk_drewN ?_ _ | refine blk_drew ?_ | refine blk_alloc ?_ _)); refine blk_far ?_ NB425_434.out _; (with_reducible repeat (first | refine blk_drewN ?_ _ | refine blk_drew ?_ | refine blk_alloc ?_ _)); exact BK425.out⟩, ⟨by repeat (with_reducible first | exact HB.out | apply bA | apply bN | apply bD | refine below_set ?_ GE425.out | refine below_set ?_ GE434.out)⟩⟩
                        · replace c19 := Bool.eq_false_iff.mpr c19
                          subst c19
                          have H1 : (impl_statesAfter.l2 k3 x4_3 a0 x13_1 x3_1 (x3_1.length : Int) x18_2 (wrap64 (x22_3 + 1)) ((rd_T27 x3_1 x18_2).f0) ((rd_T27 x3_1 x18_2).f1) ((rd_T27 x3_1 x18_2).f2)) = some r := by rw [if_neg (show ¬ (false = true) by decide)] at H; exact H
                          clear H
                          have H := H1
                          clear H1
                          have H' := Aside0.mk H
                          clear H
                          have hcz40_0 : wr.cell? ⟨gb425, 0, none⟩ = some (.slice A424_0 ((rd_T27 x3_1 x18_2).f0).length c424_0) := (blk_cell BK425.out 0).trans rfl
                          have hcz40_1 : wr.cell? ⟨gb425, 1, none⟩ = some (.slice A424_1 ((rd_T27 x3_1 x18_2).f1).length c424_1) := (blk_cell BK425.out 1).trans rfl
                          have hcz40_2 : wr.cell? ⟨gb425, 2, none⟩ = some (.int .i64 ((rd_T27 x3_1 x18_2).f2)) := (blk_cell BK425.out 2).trans rfl
                          have hfz40_0 := blk_frozen BK425.out 0
                          have hfz40_1 := blk_frozen BK425.out 1
                          have hfz40_2 := blk_frozen BK425.out 2
                          go_wp2_with (first | ((with_reducible refine gate_callee (f := 59) rfl ?_); refine goesL_ (some 28) rfl rfl Try.func59 (by kernel_rfl) rfl #[.agg #[.slice A424_0 ((rd_T27 x3_1 x18_2).f0).length c424_0, .slice A424_1 ((rd_T27 x3_1 x18_2).f1).length c424_1, .int .i64 ((rd_T27 x3_1 x18_2).f2)], .int .i64 x22_3] rfl (by (try simp only [List.map_toArray, List.map_cons, List.map_nil]); first | done | rfl) ?_; (with_reducible refine (impl_State_stepped.calls k3 _ _ ((rd_T27 x3_1 x18_2).f0) _ _ ((rd_T27 x3_1 x18_2).f1) ((rd_T27 x3_1 x18_2).f2) x22_3 t426 t429 t432 false _ ?side1 ?side2 ?side3 ?side4 A18.out).mono ?_); (case side1 => repeat (first | exact (Kd.V_reads' HO_426000.out).2.2 | (with_reducible refine Kd.C_alloc ?_ _) | (with_reducible refine Kd.C_drewN ?_ _) | (with_reducible refine Kd.C_drew ?_))); (case side2 => exact (Kd.V_reads' HO_426000.out).2.1); (case side3 => repeat (first | exact (Kd.V_reads' HO_426001.out).2.2 | (with_reducible refine Kd.C_alloc ?_ _) | (with_reducible refine Kd.C_drewN ?_ _) | (with_reducible refine Kd.C_drew ?_))); (case side4 => exact (Kd.V_reads' HO_426001.out).2.1); rintro e w41 ⟨v427, v430, rfl, ho0, ho1, hb⟩; refine ⟨_, rfl, ?_⟩; replace HO_4 := Aside0.mk (Kd.N_mono (Kd.N_told (Kd.N_told (Kd.N_old (by (with_reducible repeat (first | apply Kd.N_alloc | apply Kd.N_drewN | apply Kd.N_drew)); exact HO_4.out) hb) (Kd.R_base ho0)) (Kd.R_base ho1)) (fun _ h_ => h_.1)); replace HO_16 := Aside0.mk (Kd.N_mono (Kd.N_told (Kd.N_told (Kd.N_old (by (with_reducible repeat (first | apply Kd.N_alloc | apply Kd.N_drewN | apply Kd.N_drew)); exact HO_16.out) hb) (Kd.R_base ho0)) (Kd.R_base ho1)) (fun _ h_ => h_.1)); replace HO_426000 := Aside0.mk (Kd.V_mono (Kd.V_told (Kd.V_told (Kd.V_old (by (with_reducible repeat (first | apply Kd.V_alloc | apply Kd.V_drewN | apply Kd.V_drew)); exact HO_426000.out) hb) (Kd.R_base ho0)) (Kd.R_base ho1)) (fun _ h_ => h_.1)); replace HO_426001 := Aside0.mk (Kd.V_mono (Kd.V_told (Kd.V_told (Kd.V_old (by (with_reducible repeat (first | apply Kd.V_alloc | apply Kd.V_drewN | apply Kd.V_drew)); exact HO_426001.out) hb) (Kd.R_base ho0)) (Kd.R_base ho1)) (fun _ h_ => h_.1)); have HO428 := Aside0.mk (Kd.R_lower (Kd.R_newM (M := fun k_ => (w.heap.size ≤ k_)) ho0 (below_size (by repeat (with_reducible first | exact HB.out | apply bA | apply bN | apply bD | refine below_set ?_ GE425.out))) (fun k_ h_ => h_)) (below_size (by repeat (with_reducible first | exact HB.out | apply bA | apply bN | apply bD | refine below_set ?_ GE425.out)))); have HO431 := Aside0.mk (Kd.R_lower (Kd.R_newM (M := fun k_ => (w.heap.size ≤ k_)) ho1 (below_size (by repeat (with_reducible first | exact HB.out | apply bA | apply bN | apply bD | refine below_set ?_ GE425.out))) (fun k_ h_ => h_)) (below_size (by repeat (with_reducible first | exact HB.out | apply bA | apply bN | apply bD | refine below_set ?_ GE425.out)))); replace BK425 := Aside0.mk (blk_below (g := gb425) (o := .cells #[.slice A424_0 ((rd_T27 x3_1 x18_2).f0).length c424_0, .slice A424_1 ((rd_T27 x3_1 x18_2).f1).length c424_1, .int .i64 ((rd_T27 x3_1 x18_2).f2)] 27 (0, 0)) (by (with_reducible repeat (first | refine blk_drewN ?_ _ | refine blk_drew ?_ | refine blk_alloc ?_ _)); exact BK425.out) hb); replace HB := Aside0.mk (below_step (by repeat (with_reducible first | exact HB.out | apply bA | apply bN | apply bD | refine below_set ?_ GE425.out)) hb); (try clear hb); (try clear hb2); (try clear hk); (try clear hi); (try clear ho0); (try clear ho1)) | ((with_reducible refine gate_dst (N := 8) rfl ?_); refine box_event ?hg (N := 8) ?hd (cs := #[.slice none 0 0, .slice none 0 0, .int .i64 0]) (t := 27) ?hr ?_; (case hd => rfl); (case hg => rfl); (case hr => first | (go_simp; done) | (go_simp; rfl)); intro gb434 hg w42 hbox hb; replace HO_4 := Aside0.mk (Kd.N_below (Kd.N_elderB (by (with_reducible repeat (first | apply Kd.N_alloc | apply Kd.N_drewN | apply Kd.N_drew)); exact HO_4.out) gb434 (Nat.le_of_eq hg.symm)) hb); replace HO_16 := Aside0.mk (Kd.N_below (Kd.N_elderB (by (with_reducible repeat (first | apply Kd.N_alloc | apply Kd.N_drewN | apply Kd.N_drew)); exact HO_16.out) gb434 (Nat.le_of_eq hg.symm)) hb); replace HO_426000 := Aside0.mk (Kd.V_below (Kd.V_elderB (by (with_reducible repeat (first | apply Kd.V_alloc | apply Kd.V_drewN | apply Kd.V_drew)); exact HO_426000.out) gb434 (Nat.le_of_eq hg.symm)) hb); replace HO_426001 := Aside0.mk (Kd.V_below (Kd.V_elderB (by (with_reducible repeat (first | apply Kd.V_alloc | apply Kd.V_drewN | apply Kd.V_drew)); exact HO_426001.out) gb434 (Nat.le_of_eq hg.symm)) hb); replace HO428 := Aside0.mk (Kd.R_below (by (with_reducible repeat (first | apply rA | apply rN | apply rD)); exact HO428.out) hb); replace HO431 := Aside0.mk (Kd.R_below (by (with_reducible repeat (first | apply rA | apply rN | apply rD)); exact HO431.out) hb); have BK434 := Aside0.mk (hbox); have GW434 := Aside0.mk ((by rw [hg]; exact (below_size (by repeat (with_reducible first | exact HB.out | apply bA | apply bN | apply bD | refine below_set ?_ GE425.out))) : w.heap.size ≤ gb434)); have GE434 := Aside0.mk ((by rw [hg]; exact (below_size (by repeat (with_reducible first | exact HB.out | apply bA | apply bN | apply bD | refine below_set ?_ GE425.out))) : w.heap.size ≤ gb434)); replace HB := Aside0.mk (below_step (by repeat (with_reducible first | exact HB.out | apply bA | apply bN | apply bD | refine below_set ?_ GE425.out)) hb); have NB425_434 := Aside0.mk ((by rw [hg]; exact Nat.ne_of_lt (blk_lt (g := gb425) (o := .cells #[.slice A424_0 ((rd_T27 x3_1 x18_2).f0).length c424_0, .slice A424_1 ((rd_T27 x3_1 x18_2).f1).length c424_1, .int .i64 ((rd_T27 x3_1 x18_2).f2)] 27 (0, 0)) (by (with_reducible repeat (first | refine blk_drewN ?_ _ | refine blk_drew ?_ | refine blk_alloc ?_ _)); exact BK425.out)) : gb425 ≠ gb434)); have NB434_425 := Aside0.mk ((by rw [hg]; exact Nat.ne_of_gt (blk_lt (g := gb425) (o := .cells #[.slice A424_0 ((rd_T27 x3_1 x18_2).f0).length c424_0, .slice A424_1 ((rd_T27 x3_1 x18_2).f1).length c424_1, .int .i64 ((rd_T27 x3_1 x18_2).f2)] 27 (0, 0)) (by (with_reducible repeat (first | refine blk_drewN ?_ _ | refine blk_drew ?_ | refine blk_alloc ?_ _)); exact BK425.out)) : gb434 ≠ gb425)); replace BK425 := Aside0.mk (blk_below (g := gb425) (o := .cells #[.slice A424_0 ((rd_T27 x3_1 x18_2).f0).length c424_0, .slice A424_1 ((rd_T27 x3_1 x18_2).f1).length c424_1, .int .i64 ((rd_T27 x3_1 x18_2).f2)] 27 (0, 0)) (by (with_reducible repeat (first | refine blk_drewN ?_ _ | refine blk_drew ?_ | refine blk_alloc ?_ _)); exact BK425.out) hb); clear hb hbox hg; obtain ⟨Ao43, co43, eo43⟩ := Kd.R_slice HO428.out; subst eo43; have hnb44 := NB434_425.out; have hnc44 := NB425_434.out; have hcz45_0 : w42.cell? ⟨gb434, 0, none⟩ = some (.slice none 0 0) := (blk_cell BK434.out 0).trans rfl; have hcz45_1 : w42.cell? ⟨gb434, 1, none⟩ = some (.slice none 0 0) := (blk_cell BK434.out 1).trans rfl; have hcz45_2 : w42.cell? ⟨gb434, 2, none⟩ = some (.int .i64 0) := (blk_cell BK434.out 2).trans rfl; have hfz45_0 := blk_frozen BK434.out 0; have hfz45_1 := blk_frozen BK434.out 1; have hfz45_2 := blk_frozen BK434.out 2; obtain ⟨Ao46, co46, eo46⟩ := Kd.R_slice HO431.out; subst eo46))
                          go_roundg k3
                          case measure => have := HK1.out; have := HK2.out; have := HK3.out; omega
                          case rel => exact ⟨(x4_3), (wrap64 (x22_3 + 1)), (by first | rfl | (simp; done) | (simp [*]; done)), H', ⟨by have := HK1.out; have := HK2.out; have := HK3.out; omega⟩, ⟨by (with_reducible repeat (first | apply Kd.N_alloc | apply Kd.N_drewN | apply Kd.N_drew)); exact Kd.N_mono (Kd.N_far (p := ⟨gb434, 2, none⟩) (Kd.N_far (p := ⟨gb434, 1, none⟩) (Kd.N_far (p := ⟨gb434, 0, none⟩) (Kd.N_mono HO_4.out (fun k_ hk => (⟨hk, hk.2⟩ : _ ∧ k_ ≠ gb434))) (fun _ hk => hk.2) (.slice Ao43 t426.length co43)) (fun _ hk => hk.2) (.slice Ao46 t429.length co46)) (fun _ hk => hk.2) (.int .i64 t432)) (fun _ hk => ⟨hk.1.1.1.1.1, ⟨hk.1.1.1.1.2.1, hk.1.1.1.1.2.2⟩⟩)⟩, ⟨by (with_reducible repeat (first | apply Kd.N_alloc | apply Kd.N_drewN | apply Kd.N_drew)); exact Kd.N_mono (Kd.N_far (p := ⟨gb434, 2, none⟩) (Kd.N_far (p := ⟨gb434, 1, none⟩) (Kd.N_far (p := ⟨gb434, 0, none⟩) (Kd.N_mono HO_16.out (fun k_ hk => (⟨hk, hk.2⟩ : _ ∧ k_ ≠ gb434))) (fun _ hk => hk.2) (.slice Ao43 t426.length co43)) (fun _ hk => hk.2) (.slice Ao46 t429.length co46)) (fun _ hk => hk.2) (.int .i64 t432)) (fun _ hk => ⟨hk.1.1.1.1.1, ⟨hk.1.1.1.1.2.1, hk.1.1.1.1.2.2⟩⟩)⟩, ⟨by (with_reducible repeat (first | apply Kd.V_alloc | apply Kd.V_drewN | apply Kd.V_drew)); exact Kd.V_mono (Kd.V_far (p := ⟨gb434, 2, none⟩) (Kd.V_far (p := ⟨gb434, 1, none⟩) (Kd.V_far (p := ⟨gb434, 0, none⟩) (Kd.V_mono HO_426000.out (fun k_ hk => (⟨hk, hk.2⟩ : _ ∧ k_ ≠ gb434))) (fun _ hk => hk.2) (.slice Ao43 t426.length co43)) (fun _ hk => hk.2) (.slice Ao46 t429.length co46)) (fun _ hk => hk.2) (.int .i64 t432)) (fun _ hk => ⟨hk.1.1.1.1.1, ⟨hk.1.1.1.1.2.1, ⟨hk.1.1.1.1.2.2.1, hk.1.1.1.1.2.2.2⟩⟩⟩)⟩, ⟨by (with_reducible repeat (first | apply Kd.V_alloc | apply Kd.V_drewN | apply Kd.V_drew)); exact Kd.V_mono (Kd.V_far (p := ⟨gb434, 2, none⟩) (Kd.V_far (p := ⟨gb434, 1, none⟩) (Kd.V_far (p := ⟨gb434, 0, none⟩) (Kd.V_mono HO_426001.out (fun k_ hk => (⟨hk, hk.2⟩ : _ ∧ k_ ≠ gb434))) (fun _ hk => hk.2) (.slice Ao43 t426.length co43)) (fun _ hk => hk.2) (.slice Ao46 t429.length co46)) (fun _ hk => hk.2) (.int .i64 t432)) (fun _ hk => ⟨hk.1.1.1.1.1, ⟨hk.1.1.1.1.2.1, ⟨hk.1.1.1.1.2.2.1, hk.1.1.1.1.2.2.2⟩⟩⟩)⟩, ⟨by (with_reducible repeat (first | refine blk_drewN ?_ _ | refine blk_drew ?_ | refine blk_alloc ?_ _)); refine blk_far ?_ NB425_434.out _; (with_reducible repeat (first | refine blk_drewN ?_ _ | refine blk_drew ?_ | refine blk_alloc ?_ _)); refine blk_far ?_ NB425_434.out _; (with_reducible repeat (first | refine blk_drewN ?_ _ | refine blk_drew ?_ | refine blk_alloc ?_ _)); refine blk_far ?_ NB425_434.out _; (with_reducible repeat (first | refine blk_drewN ?_ _ | refine blk_drew ?_ | refine blk_alloc ?_ _)); exact BK425.out⟩, ⟨by repeat (with_reducible first | exact HB.out | apply bA | apply bN | apply bD | refine below_set ?_ GE425.out | refine below_set ?_ GE434.out)⟩⟩
                      · rw [if_neg c17] at H
                        have c17b0 : decide (x22_3 < 4) = false := decide_eq_false c17
                        clear c17
                        have H' := Aside0.mk H
                        clear H
                        go_wp2
                        go_roundg k3
                        case measure => have := HK1.out; have := HK2.out; have := HK3.out; omega
                        case rel => exact ⟨(x4_3), (wrap64 (x18_2 + 1)), (by first | rfl | (simp; done) | (simp [*]; done)), H', ⟨by have := HK1.out; have := HK2.out; have := HK3.out; omega⟩, ⟨by (with_reducible repeat (first | apply Kd.N_alloc | apply Kd.N_drewN | apply Kd.N_drew)); exact Kd.N_mono HO_4.out (fun _ hk => ⟨hk.1, hk.2.1⟩)⟩, ⟨by (with_reducible repeat (first | apply Kd.N_alloc | apply Kd.N_drewN | apply Kd.N_drew)); exact Kd.N_mono HO_16.out (fun _ hk => ⟨hk.1, hk.2.1⟩)⟩, ⟨by repeat (with_reducible first | exact HB.out | apply bA | apply bN | apply bD | refine below_set ?_ GE425.out)⟩⟩
                · rw [if_neg c14] at H
                  exact absurd H (by simp)
              · rw [if_neg c13] at H
                exact absurd H (by simp)
            · rw [if_neg c12] at H
              have c12b0 : decide (x18_2 < (x3_1.length : Int)) = false := decide_eq_false c12
              clear c12
              replace H := Option.bind_eq_some_iff.mp H
              obtain ⟨y418, AS0, H⟩ := H
              replace H : ((slices_CompactFunc_State.f y418).bind fun y421 => (impl_statesAfter.l0 k2 y421 a0 (wrap64 (x13_1 + 1)))) = some r := H
              have AS := Aside0.mk AS0
              clear AS0
              replace H := Option.bind_eq_some_iff.mp H
              obtain ⟨y421, AC0, H⟩ := H
              replace H : (impl_statesAfter.l0 k2 y421 a0 (wrap64 (x13_1 + 1))) = some r := H
              have AC := Aside0.mk AC0
              clear AC0
              have H' := Aside0.mk H
              clear H
              go_wp2_with (first | (go_at_call 77; (with_reducible refine (slices_SortFunc_State.calls (base := w.heap.size) (ok := (fun k_ => (w.heap.size ≤ k_) ∧ some k_ ≠ (.slice Ao11 x3_1.length co11 : Value).ownBlock)) (xs := x4_2) ?hN AS.out).mono ?_); (case hN => exact (by (with_reducible repeat (first | apply Kd.N_alloc | apply Kd.N_drewN | apply Kd.N_drew)); exact HO_4.out)); rintro e w49 ⟨rfl, ho, hg⟩; have hb := Below.grown (by repeat (with_reducible first | exact HB.out | apply bA | apply bN | apply bD)) hg (below_size (by repeat (with_reducible first | exact HB.out | apply bA | apply bN | apply bD))) (fun k_ hk_ => (ho.1 k_ hk_).1); replace HO_16 := Aside0.mk (Kd.N_afterv (ok := (fun k_ => (w.heap.size ≤ k_))) (by (with_reducible repeat (first | apply Kd.N_alloc | apply Kd.N_drewN | apply Kd.N_drew)); exact HO_16.out) hg (.inl rfl)); replace HB := Aside0.mk (hb); have HO420 := Aside0.mk (ho); clear HO_4; clear ho hb hg) | (go_at_call 79; (with_reducible refine (slices_CompactFunc_State.calls (base := w.heap.size) (ok := (fun k_ => (w.heap.size ≤ k_) ∧ some k_ ≠ (.slice Ao11 x3_1.length co11 : Value).ownBlock)) (xs := y418) ?hN AC.out).mono ?_); (case hN => exact (by (with_reducible repeat (first | apply Kd.N_alloc | apply Kd.N_drewN | apply Kd.N_drew)); exact HO420.out)); rintro e w50 ⟨v422, rfl, ho, hg, hat0⟩; have hb := Below.grown (by repeat (with_reducible first | exact HB.out | apply bA | apply bN | apply bD)) hg (below_size (by repeat (with_reducible first | exact HB.out | apply bA | apply bN | apply bD))) (fun k_ hk_ => (ho.1 k_ (hat0.trans hk_)).1); replace HO_16 := Aside0.mk (Kd.N_afterv (ok := (fun k_ => (w.heap.size ≤ k_))) (by (with_reducible repeat (first | apply Kd.N_alloc | apply Kd.N_drewN | apply Kd.N_drew)); exact HO_16.out) hg (.inl hat0)); replace HB := Aside0.mk (hb); have HO423 := Aside0.mk (ho); clear HO420; clear ho hb hg hat0))
              go_roundg k2
              case measure => have := HK1.out; have := HK2.out; omega
              case rel => exact ⟨(y421), (wrap64 (x13_1 + 1)), (by first | rfl | (simp; done) | (simp [*]; done)), H', ⟨by have := HK1.out; have := HK2.out; omega⟩, ⟨by (with_reducible repeat (first | apply Kd.N_alloc | apply Kd.N_drewN | apply Kd.N_drew)); exact Kd.N_mono HO423.out (fun _ hk => hk.1)⟩, ⟨by repeat (with_reducible first | exact HB.out | apply bA | apply bN | apply bD)⟩⟩
      · rw [if_neg c8] at H
        have c8b0 : decide (x13_1 < a0) = false := decide_eq_false c8
        clear c8
        obtain rfl := Option.some.inj H
        go_wp2
        go_ret
        exact ⟨_, by first | rfl | (simp [*, errW_none, errW_some] <;> rfl), by (with_reducible repeat (first | apply Kd.N_alloc | apply Kd.N_drewN | apply Kd.N_drew)); exact HO_3.out, by repeat (with_reducible first | exact HB.out | apply bA | apply bN | apply bD)⟩

/-! ### impl_CountStates: function 30 -/
def impl_CountStates.f (k : Nat) (a0 : Int) : Option (Int × Bool) := (impl_in.f a0 0 6).bind fun t439 => (if t439 = true then ((impl_statesAfter.f k a0).bind fun t440 => (some ((t440.length : Int), true))) else (some (0, false)))
theorem impl_CountStates.mono : ∀ a0 k, LeO (impl_CountStates.f k a0) (impl_CountStates.f (k + 1) a0) := by
  intro a0 k
  unfold impl_CountStates.f
  repeat' first
      | (with_reducible exact impl_statesAfter.mono _ _)
      | (with_reducible exact LeO.refl _)
      | (with_reducible exact LeO.none _)
      | (with_reducible refine LeO.ite ?_ ?_)
      | (with_reducible refine LeO.bind ?_ (fun _ => ?_))
      | exact LeO.none _
      | refine LeO.ite ?_ ?_
      | refine LeO.bind ?_ (fun _ => ?_)
set_option maxHeartbeats 8000000 in
set_option maxRecDepth 100000 in
theorem impl_CountStates.calls (k : Nat) (a0 : Int) (r1 : Int) (r2 : Bool) (w : World) (h : impl_CountStates.f k a0 = some (r1, r2)) :
    Calls Try.prog 30 #[.int .i64 a0] w fun e w' => e = .returned (.tuple #[.int .i64 r1, .bool r2]) ∧ Below w.heap.size w w' := by
  have HB := Aside0.mk (Below.refl w.heap.size w)
  have H : ((impl_in.f a0 0 6).bind fun t439 => (if t439 = true then ((impl_statesAfter.f k a0).bind fun t440 => (some ((t440.length : Int), true))) else (some (0, false)))) = some (r1, r2) := h
  clear h
  replace H := Option.bind_eq_some_iff.mp H
  obtain ⟨t439, A20, H⟩ := H
  replace H : (if t439 = true then ((impl_statesAfter.f k a0).bind fun t440 => (some ((t440.length : Int), true))) else (some (0, false))) = some (r1, r2) := H
  have A2 := Aside0.mk A20
  clear A20
  by_cases c3 : t439 = true
  · subst c3
    have H1 : ((impl_statesAfter.f k a0).bind fun t440 => (some ((t440.length : Int), true))) = some (r1, r2) := by rw [if_pos rfl] at H; exact H
    clear H
    have H := H1
    clear H1
    replace H := Option.bind_eq_some_iff.mp H
    obtain ⟨t440, A40, H⟩ := H
    replace H : (some ((t440.length : Int), true)) = some (r1, r2) := H
    have A4 := Aside0.mk A40
    clear A40
    simp only [Option.some.injEq, Prod.mk.injEq] at H
    obtain ⟨rfl, rfl⟩ := H
    go_enter Try.func30, Try.ntmps30
    go_wp2_with (first | ((with_reducible refine gate_callee (f := 56) rfl ?_); refine goesL_ (some 5) rfl rfl Try.func56 (by kernel_rfl) rfl #[.int .i64 a0, .int .i64 0, .int .i64 6] rfl (by (try simp only [List.map_toArray, List.map_cons, List.map_nil]); first | done | rfl) ?_; (with_reducible refine (impl_in.calls a0 0 6 true _ A2.out).mono ?_); rintro e w' ⟨rfl, ⟨nd, rfl⟩⟩; refine ⟨_, rfl, ?_⟩) | ((with_reducible refine gate_callee (f := 61) rfl ?_); refine goesL_ (some 8) rfl rfl Try.func61 (by kernel_rfl) rfl #[.int .i64 a0] rfl (by (try simp only [List.map_toArray, List.map_cons, List.map_nil]); first | done | rfl) ?_; (with_reducible refine (impl_statesAfter.calls k a0 t440 _ A4.out).mono ?_); rintro e w5 ⟨v441, rfl, ho0, hb⟩; refine ⟨_, rfl, ?_⟩; have HO442 := Aside0.mk (Kd.N_lower (Kd.N_mono (ok' := fun k_ => True) ho0 (fun k_ hk_ => trivial)) (below_size (by repeat (with_reducible first | exact HB.out | apply bA | apply bN | apply bD)))); replace HB := Aside0.mk (below_step (by repeat (with_reducible first | exact HB.out | apply bA | apply bN | apply bD)) hb); (try clear hb); (try clear hb2); (try clear hk); (try clear hi); (try clear ho0); obtain ⟨Ao6, co6, eo6⟩ := Kd.N_slice HO442.out; subst eo6))
    go_ret2
    exact ⟨by first | rfl | (simp [*, errW_none, errW_some] <;> rfl), by repeat (with_reducible first | exact HB.out | apply bA | apply bN | apply bD)⟩
  · replace c3 := Bool.eq_false_iff.mpr c3
    subst c3
    have H1 : (some (0, false)) = some (r1, r2) := by rw [if_neg (show ¬ (false = true) by decide)] at H; exact H
    clear H
    have H := H1
    clear H1
    simp only [Option.some.injEq, Prod.mk.injEq] at H
    obtain ⟨rfl, rfl⟩ := H
    go_enter Try.func30, Try.ntmps30
    go_wp2_with (first | ((with_reducible refine gate_callee (f := 56) rfl ?_); refine goesL_ (some 5) rfl rfl Try.func56 (by kernel_rfl) rfl #[.int .i64 a0, .int .i64 0, .int .i64 6] rfl (by (try simp only [List.map_toArray, List.map_cons, List.map_nil]); first | done | rfl) ?_; (with_reducible refine (impl_in.calls a0 0 6 false _ A2.out).mono ?_); rintro e w' ⟨rfl, ⟨nd, rfl⟩⟩; refine ⟨_, rfl, ?_⟩))
    go_ret2
    exact ⟨by first | rfl | (simp [*, errW_none, errW_some] <;> rfl), by repeat (with_reducible first | exact HB.out | apply bA | apply bN | apply bD)⟩

/-! ### laws_FnExactCountStates: function 8 -/
def laws_FnExactCountStates.f (k : Nat) (a0 : Int) : Option (Bool) := (spec_CountStates.f k a0).bind fun bt443 => ((impl_CountStates.f k a0).bind fun bt445 => (if bt445.1 = bt443.1 then (if (bt445.2 != bt443.2) = true then (some false) else (some true)) else (some false)))
theorem laws_FnExactCountStates.mono : ∀ a0 k, LeO (laws_FnExactCountStates.f k a0) (laws_FnExactCountStates.f (k + 1) a0) := by
  intro a0 k
  unfold laws_FnExactCountStates.f
  repeat' first
      | (with_reducible exact impl_CountStates.mono _ _)
      | (with_reducible exact spec_CountStates.mono _ _)
      | (with_reducible exact LeO.refl _)
      | (with_reducible exact LeO.none _)
      | (with_reducible refine LeO.ite ?_ ?_)
      | (with_reducible refine LeO.bind ?_ (fun _ => ?_))
      | exact LeO.none _
      | refine LeO.ite ?_ ?_
      | refine LeO.bind ?_ (fun _ => ?_)
set_option maxHeartbeats 8000000 in
set_option maxRecDepth 100000 in
theorem laws_FnExactCountStates.calls (k : Nat) (a0 : Int) (r : Bool) (w : World) (hr_ : r = true) (h : laws_FnExactCountStates.f k a0 = some r) :
    Calls Try.prog 8 #[.int .i64 a0] w fun e w' => e = .returned (.bool r) ∧ Below w.heap.size w w' := by
  have HB := Aside0.mk (Below.refl w.heap.size w)
  have H : ((spec_CountStates.f k a0).bind fun bt443 => ((impl_CountStates.f k a0).bind fun bt445 => (if bt445.1 = bt443.1 then (if (bt445.2 != bt443.2) = true then (some false) else (some true)) else (some false)))) = some r := h
  clear h
  replace H := Option.bind_eq_some_iff.mp H
  obtain ⟨⟨t443, t444⟩, A20, H⟩ := H
  replace H : ((impl_CountStates.f k a0).bind fun bt445 => (if bt445.1 = t443 then (if (bt445.2 != t444) = true then (some false) else (some true)) else (some false))) = some r := H
  have A2 := Aside0.mk A20
  clear A20
  replace H := Option.bind_eq_some_iff.mp H
  obtain ⟨⟨t445, t446⟩, A30, H⟩ := H
  replace H : (if t445 = t443 then (if (t446 != t444) = true then (some false) else (some true)) else (some false)) = some r := H
  have A3 := Aside0.mk A30
  clear A30
  by_cases c4 : t445 = t443
  · rw [if_pos c4] at H
    have c4b0 : (t445 == t443) = true := beq_iff_eq.mpr c4
    have c4b1 : (t445 != t443) = false := bne_eq_false_iff_eq.mpr c4
    clear c4
    by_cases c5 : (t446 != t444) = true
    · rw [if_pos c5] at H
      have c5b0 : (t446 != t444) = true := c5
      (try (have c5b1 : decide (t446 = t444) = false := by simpa using c5))
      (try (have c5b2 : (t446 == t444) = false := by simpa using c5))
      (try (have c5b3 : ¬ (t446 = t444) := by simpa using c5))
      clear c5
      have hrr_ := Option.some.inj H
      rw [hr_] at hrr_
      exact absurd hrr_ (by decide)
    · rw [if_neg c5] at H
      have c5b0 : (t446 != t444) = false := by simpa using c5
      (try (have c5b1 : decide (t446 = t444) = true := by simpa using c5))
      (try (have c5b2 : (t446 == t444) = true := by simpa using c5))
      clear c5
      have hrr_ := Option.some.inj H
      rw [hr_] at hrr_
      first
        | exact absurd hrr_ (by decide)
        | (clear hrr_
           obtain rfl := Option.some.inj H
           go_enter Try.func8, Try.ntmps8
           go_wp2_with (first | ((with_reducible refine gate_callee (f := 29) rfl ?_); refine goesL_ (some 9) rfl rfl Try.func29 (by kernel_rfl) rfl #[.int .i64 a0] rfl (by (try simp only [List.map_toArray, List.map_cons, List.map_nil]); first | done | rfl) ?_; (with_reducible refine (spec_CountStates.calls k a0 t443 t444 _ A2.out).mono ?_); rintro e w8 ⟨rfl, hb⟩; refine ⟨_, rfl, ?_⟩; replace HB := Aside0.mk (below_step (by repeat (with_reducible first | exact HB.out | apply bA | apply bN | apply bD)) hb); (try clear hb); (try clear hb2); (try clear hk); (try clear hi)) | ((with_reducible refine gate_callee (f := 30) rfl ?_); refine goesL_ (some 14) rfl rfl Try.func30 (by kernel_rfl) rfl #[.int .i64 a0] rfl (by (try simp only [List.map_toArray, List.map_cons, List.map_nil]); first | done | rfl) ?_; (with_reducible refine (impl_CountStates.calls k a0 t445 t446 _ A3.out).mono ?_); rintro e w9 ⟨rfl, hb⟩; refine ⟨_, rfl, ?_⟩; replace HB := Aside0.mk (below_step (by repeat (with_reducible first | exact HB.out | apply bA | apply bN | apply bD)) hb); (try clear hb); (try clear hb2); (try clear hk); (try clear hi)))
           go_ret
           exact ⟨by first | rfl | (simp [*, errW_none, errW_some] <;> rfl), by repeat (with_reducible first | exact HB.out | apply bA | apply bN | apply bD)⟩)
  · rw [if_neg c4] at H
    have c4b0 : (t445 == t443) = false := beq_eq_false_iff_ne.mpr c4
    have c4b1 : (t445 != t443) = true := bne_iff_ne.mpr c4
    have hrr_ := Option.some.inj H
    rw [hr_] at hrr_
    exact absurd hrr_ (by decide)

/-- THE ONE PURE STATEMENT of laws_FnExactCountStates. -/
def laws_FnExactCountStates.Pure : Prop := ∀ (a0 : Int), (Lit.int .i64 a0).wf = true → ∃ k, laws_FnExactCountStates.f k a0 = some true
theorem laws_FnExactCountStates.walk (P : laws_FnExactCountStates.Pure) (a0 : Int) (w : World) (w0 : (Lit.int .i64 a0).wf = true) :
    Calls Try.prog 8 #[.int .i64 a0] w fun e w' => e = .returned (.bool true) ∧ Below w.heap.size w w' := by
  obtain ⟨k, h⟩ := P a0 w0
  refine (laws_FnExactCountStates.calls k a0 true w rfl h).mono ?_
  rintro e w' ⟨rfl, hd⟩
  exact ⟨rfl, hd⟩

end Go.Proofs.Ytlbaldejaapbiaa.QFnExactCountStates
