-- Written by wip/myprint.py (a program of mine round the kit's printer). Lean checks it.
import Derived.Test.YtpepnlcelllhkaaQFnExactMeandersOfx0
import Derived.Test.YtpepnlcelllhkaaQFnExactMeandersOfx6
namespace Go.Proofs.Ytpepnlcelllhkaa.QFnExactMeandersOf
open Go.RowKit Go.Proofs.YtpepnlcelllhkaaW.PrintWords Go.Proofs.YtpepnlcelllhkaaW.PrintLast Go.Proofs.YtpepnlcelllhkaaW.PrintMore
attribute [local go_sem] max2_int min2_int max_two min_two max_three min_three max_four min_four   -- for this text's walks alone
set_option linter.unusedVariables false
set_option linter.unusedSimpArgs false

/-! ### impl_Meander_curves: function 93 -/
mutual
def impl_Meander_curves.l0 : Nat → List Int → Int → Int → Int → List Int → List Int → Option (List Int × Int)
  | 0, _, _, _, _, _, _ => none
  | k + 1, x4, x5, x15, x16, x289000, x289001 => if x16 < x15 then (if 0 ≤ x16 then (if x16 < (x4.length : Int) then (if (rd x4 x16) ≥ 0 then (impl_Meander_curves.l0 k x4 x5 x15 (wrap64 (x16 + 1)) x289000 x289001) else ((impl_Meander_way.f k x289000 x289001 x16).bind fun t296 => (impl_Meander_curves.l1 k x4 x5 x15 x16 t296 (t296.length : Int) 0 x289000 x289001))) else (none)) else (none)) else (some (x4, x5))
def impl_Meander_curves.l1 : Nat → List Int → Int → Int → Int → List Int → Int → Int → List Int → List Int → Option (List Int × Int)
  | 0, _, _, _, _, _, _, _, _, _ => none
  | k + 1, x4, x5, x15, x16, x26, x27, x28, x289000, x289001 => if x28 < x27 then (if 0 ≤ x28 then (if x28 < (x26.length : Int) then (if 0 ≤ (rd x26 x28) then (if (rd x26 x28) < (x4.length : Int) then (impl_Meander_curves.l1 k (x4.set ((rd x26 x28) : Int).toNat x5) x5 x15 x16 x26 x27 (wrap64 (x28 + 1)) x289000 x289001) else (none)) else (none)) else (none)) else (none)) else (impl_Meander_curves.l0 k x4 (wrap64 (x5 + 1)) x15 (wrap64 (x16 + 1)) x289000 x289001)
end
def impl_Meander_curves.f (k : Nat) (l0_0 : List Int) (l0_1 : List Int) : Option (List Int × Int) := (slices_Repeat_int_int.f (([(-1)] : List Int)) (l0_0.length : Int)).bind fun t292 => (impl_Meander_curves.l0 k t292 0 (t292.length : Int) 0 l0_0 l0_1)
theorem impl_Meander_curves.mono_l : ∀ k, (∀ y0 y1 y2 y3 y4 y5, LeO (impl_Meander_curves.l0 k y0 y1 y2 y3 y4 y5) (impl_Meander_curves.l0 (k + 1) y0 y1 y2 y3 y4 y5)) ∧ (∀ y0 y1 y2 y3 y4 y5 y6 y7 y8, LeO (impl_Meander_curves.l1 k y0 y1 y2 y3 y4 y5 y6 y7 y8) (impl_Meander_curves.l1 (k + 1) y0 y1 y2 y3 y4 y5 y6 y7 y8))
  | 0 => ⟨fun _ _ _ _ _ _ r h => by simp [impl_Meander_curves.l0] at h, fun _ _ _ _ _ _ _ _ _ r h => by simp [impl_Meander_curves.l1] at h⟩
  | k + 1 => by
    obtain ⟨ih0, ih1⟩ := impl_Meander_curves.mono_l k
    refine ⟨?_, ?_⟩
    · intro y0 y1 y2 y3 y4 y5
      unfold impl_Meander_curves.l0
      repeat' first
      | (with_reducible exact ih0 _ _ _ _ _ _)
      | (with_reducible exact ih1 _ _ _ _ _ _ _ _ _)
      | (with_reducible exact impl_Meander_way.mono _ _ _ _)
      | (with_reducible exact LeO.refl _)
      | (with_reducible exact LeO.none _)
      | (with_reducible refine LeO.ite ?_ ?_)
      | (with_reducible refine LeO.bind ?_ (fun _ => ?_))
      | exact ih0 _ _ _ _ _ _
      | exact ih1 _ _ _ _ _ _ _ _ _
      | exact impl_Meander_way.mono _ _ _ _
      | exact LeO.none _
      | refine LeO.ite ?_ ?_
      | refine LeO.bind ?_ (fun _ => ?_)
    · intro y0 y1 y2 y3 y4 y5 y6 y7 y8
      unfold impl_Meander_curves.l1
      repeat' first
      | (with_reducible exact ih0 _ _ _ _ _ _)
      | (with_reducible exact ih1 _ _ _ _ _ _ _ _ _)
      | (with_reducible exact impl_Meander_way.mono _ _ _ _)
      | (with_reducible exact LeO.refl _)
      | (with_reducible exact LeO.none _)
      | (with_reducible refine LeO.ite ?_ ?_)
      | (with_reducible refine LeO.bind ?_ (fun _ => ?_))
      | exact ih0 _ _ _ _ _ _
      | exact ih1 _ _ _ _ _ _ _ _ _
      | exact impl_Meander_way.mono _ _ _ _
      | exact LeO.none _
      | refine LeO.ite ?_ ?_
      | refine LeO.bind ?_ (fun _ => ?_)
theorem impl_Meander_curves.mono : ∀ a0 a1 k, LeO (impl_Meander_curves.f k a0 a1) (impl_Meander_curves.f (k + 1) a0 a1) := by
  intro a0 a1 k
  obtain ⟨ih0, ih1⟩ := impl_Meander_curves.mono_l k
  unfold impl_Meander_curves.f
  repeat' first
      | (with_reducible exact ih0 _ _ _ _ _ _)
      | (with_reducible exact ih1 _ _ _ _ _ _ _ _ _)
      | (with_reducible exact impl_Meander_way.mono _ _ _ _)
      | (with_reducible exact LeO.refl _)
      | (with_reducible exact LeO.none _)
      | (with_reducible refine LeO.ite ?_ ?_)
      | (with_reducible refine LeO.bind ?_ (fun _ => ?_))
      | exact ih0 _ _ _ _ _ _
      | exact ih1 _ _ _ _ _ _ _ _ _
      | exact impl_Meander_way.mono _ _ _ _
      | exact LeO.none _
      | refine LeO.ite ?_ ?_
      | refine LeO.bind ?_ (fun _ => ?_)
set_option maxHeartbeats 8000000 in
set_option maxRecDepth 100000 in
theorem impl_Meander_curves.calls (k : Nat) (A0_0 : Option Addr) (c0_0 : Nat) (l0_0 : List Int) (A0_1 : Option Addr) (c0_1 : Nat) (l0_1 : List Int) (r1 : List Int) (r2 : Int) (w : World) (hr0_0 : Kd.C (Kd.int .i64) w A0_0 l0_0.length l0_0) (hc0_0 : l0_0.length ≤ c0_0) (hr0_1 : Kd.C (Kd.int .i64) w A0_1 l0_1.length l0_1) (hc0_1 : l0_1.length ≤ c0_1) (h : impl_Meander_curves.f k l0_0 l0_1 = some (r1, r2)) :
    Calls Try.prog 93 #[.agg #[.slice A0_0 l0_0.length c0_0, .slice A0_1 l0_1.length c0_1]] w fun e w' => ∃ v0_ : Value, e = .returned (.tuple #[v0_, .int .i64 r2]) ∧ Kd.R (Kd.int .i64) 3 w' w.heap.size (fun _ => True) v0_ r1 ∧ Below w.heap.size w w' := by
  have hu44 := Try.underlying44
  have HR0_0 := Aside0.mk hr0_0
  have HC0_0 := Aside0.mk hc0_0
  clear hr0_0 hc0_0
  have HR0_1 := Aside0.mk hr0_1
  have HC0_1 := Aside0.mk hc0_1
  clear hr0_1 hc0_1
  have HB := Aside0.mk (Below.refl w.heap.size w)
  have H : ((slices_Repeat_int_int.f (([(-1)] : List Int)) (l0_0.length : Int)).bind fun t292 => (impl_Meander_curves.l0 k t292 0 (t292.length : Int) 0 l0_0 l0_1)) = some (r1, r2) := h
  clear h
  obtain ⟨y289, hy289⟩ : ∃ y_ : List Int, y_ = (([(-1)] : List Int)) := ⟨_, rfl⟩
  replace H : ((slices_Repeat_int_int.f y289 (l0_0.length : Int)).bind fun t292 => (impl_Meander_curves.l0 k t292 0 (t292.length : Int) 0 l0_0 l0_1)) = some (r1, r2) := by first | (rw [hy289]; with_reducible exact H) | (have H2_ := (Option.bind_some _ _).symm.trans H; rw [hy289]; with_reducible exact H2_) | (have H2_ := (Option.bind_some _ _).symm.trans H; with_reducible exact H2_) | with_reducible exact H | (rw [hy289]; exact H) | exact H
  have Ny289 := Aside0.mk hy289
  clear hy289
  replace H := Option.bind_eq_some_iff.mp H
  obtain ⟨t292, A20, H⟩ := H
  replace H : (impl_Meander_curves.l0 k t292 0 (t292.length : Int) 0 l0_0 l0_1) = some (r1, r2) := H
  have A2 := Aside0.mk A20
  clear A20
  have H' := Aside0.mk H
  clear H
  go_enter Try.func93, Try.ntmps93
  go_wp2_with (first | ((with_reducible refine gate_dst (N := 1) rfl ?_); refine box_event ?hg (N := 1) ?hd (cs := #[.slice A0_0 l0_0.length c0_0, .slice A0_1 l0_1.length c0_1]) (t := 44) ?hr ?_; (case hd => rfl); (case hg => rfl); (case hr => first | (go_simp; done) | (go_simp; rfl)); intro gb288 hg w3 hbox hb; have n0_ := Aside0.mk (below_step (by repeat (first | (with_reducible first | exact HB.out | apply below_alloc | apply pw_below_drewN | apply below_drew1) | exact HB.out)) hb); have n1_ := Aside0.mk (hbox); have n2_ := Aside0.mk ((by rw [hg]; exact (below_size (by repeat (first | (with_reducible first | exact HB.out | apply below_alloc | apply pw_below_drewN | apply below_drew1) | exact HB.out))) : w.heap.size ≤ gb288)); have n3_ := Aside0.mk ((by rw [hg]; exact (below_size (by repeat (first | (with_reducible first | exact HB.out | apply below_alloc | apply pw_below_drewN | apply below_drew1) | exact HB.out))) : w.heap.size ≤ gb288)); clear HB; have HB := n0_; have BK288 := n1_; have GW288 := n2_; have GE288 := n3_; clear n0_ n1_ n2_ n3_; clear hb hbox hg) | ((with_reducible refine gate_dst (N := 9) rfl ?_); refine Kd.R_lit (Kd.int .i64) _ 3 ?hg (N := 9) ?hd (xs := ([(-1)] : List Int)) (inner := [.int .i64 (-1)]) (ok := fun _ => True) (okp := fun _ => True) ?hr ?hp (fun _ hk => hk) trivial (Below.refl _ _) (Nat.le_refl _) (by simp) ?_; (case hd => rfl); (case hg => rfl); (case hr => first | (go_simp; done) | (go_simp; rfl)); (case hp => exact (Reps.one (show Kd.M (Kd.int .i64) _ _ _ (-1) [.int .i64 (-1)] from rfl) (Reps.none _ _))); intro v290 w4 ho5 hb hg_ hnew_; clear hg_ hnew_; (first | rw [← Ny289.out] at ho5 | (simp only [Int.reduceToNat] at ho5; rw [← Ny289.out] at ho5)); have n0_ := Aside0.mk (Kd.R_lower ho5 (below_size (by repeat (first | (with_reducible first | exact HB.out | apply below_alloc | apply pw_below_drewN | apply below_drew1 | refine below_set ?_ GE288.out) | exact HB.out)))); have n1_ := Aside0.mk (blk_below (g := gb288) (o := .cells #[.slice A0_0 l0_0.length c0_0, .slice A0_1 l0_1.length c0_1] 44 (0, 0)) (by (with_reducible repeat (first | refine blk_drewN ?_ _ | refine blk_drew ?_ | refine blk_alloc ?_ _)); exact BK288.out) hb); have n2_ := Aside0.mk (below_step (by repeat (first | (with_reducible first | exact HB.out | apply below_alloc | apply pw_below_drewN | apply below_drew1 | refine below_set ?_ GE288.out) | exact HB.out)) hb); clear BK288; clear HB; have HO291 := n0_; have BK288 := n1_; have HB := n2_; clear n0_ n1_ n2_; clear hb ho5; have hcz6_0 : w4.cell? ⟨gb288, 0, none⟩ = some (.slice A0_0 l0_0.length c0_0) := (blk_cell BK288.out 0).trans rfl; have hcz6_1 : w4.cell? ⟨gb288, 1, none⟩ = some (.slice A0_1 l0_1.length c0_1) := (blk_cell BK288.out 1).trans rfl; have hfz6_0 := blk_frozen BK288.out 0; have hfz6_1 := blk_frozen BK288.out 1; obtain ⟨Ao7, co7, eo7⟩ := Kd.R_slice HO291.out; subst eo7) | ((with_reducible refine gate_callee (f := 103) rfl ?_); refine goesL_ (some 13) rfl rfl Try.func103 (by kernel_rfl) rfl #[.slice Ao7 y289.length co7, .int .i64 (l0_0.length : Int)] rfl (by (try simp only [List.map_toArray, List.map_cons, List.map_nil]); first | done | rfl | (simp only [List.length_drop, List.length_take]; rfl)) ?_; (with_reducible refine (slices_Repeat_int_int.calls _ _ y289 (l0_0.length : Int) t292 _ ?side1 ?side2 A2.out).mono ?_); (case side1 => repeat (first | exact (Kd.R_reads' HO291.out).2.2 | (with_reducible refine Kd.C_alloc ?_ _) | (with_reducible refine Kd.C_drewN ?_ _) | (with_reducible refine Kd.C_drew ?_))); (case side2 => exact (Kd.R_reads' HO291.out).2.1); rintro e w8 ⟨v293, rfl, ho0, hb⟩; refine ⟨_, rfl, ?_⟩; have n0_ := Aside0.mk (Kd.R_elder' (by (with_reducible repeat (first | apply Kd.R_alloc | apply Kd.R_drewN | apply Kd.R_drew)); exact HO291.out) (Kd.R_base ho0) hb); have n1_ := Aside0.mk (Kd.R_lower (Kd.R_new' ho0 (Kd.R_lt (by (with_reducible repeat (first | apply Kd.R_alloc | apply Kd.R_drewN | apply Kd.R_drew)); exact HO291.out))) (below_size (by repeat (first | (with_reducible first | exact HB.out | apply below_alloc | apply pw_below_drewN | apply below_drew1 | refine below_set ?_ GE288.out) | exact HB.out)))); have n2_ := Aside0.mk (blk_below (g := gb288) (o := .cells #[.slice A0_0 l0_0.length c0_0, .slice A0_1 l0_1.length c0_1] 44 (0, 0)) (by (with_reducible repeat (first | refine blk_drewN ?_ _ | refine blk_drew ?_ | refine blk_alloc ?_ _)); exact BK288.out) hb); have n3_ := Aside0.mk (below_step (by repeat (first | (with_reducible first | exact HB.out | apply below_alloc | apply pw_below_drewN | apply below_drew1 | refine below_set ?_ GE288.out) | exact HB.out)) hb); clear HO291; clear BK288; clear HB; have HO291 := n0_; have HO294 := n1_; have BK288 := n2_; have HB := n3_; clear n0_ n1_ n2_ n3_; (try clear hb); (try clear hb2); (try clear hk); (try clear hi); (try clear ho0); obtain ⟨Ao9, co9, eo9⟩ := Kd.R_slice HO294.out; subst eo9))
  go_loopg [5, 16] k (fun kq v5 v16 w' => ∃ (x4_1 : List Int) (x5_1 : Int) (x16_1 : Int), v5 = .int .i64 x5_1 ∧ v16 = .int .i64 x16_1 ∧ Aside0 (impl_Meander_curves.l0 kq x4_1 x5_1 (t292.length : Int) x16_1 l0_0 l0_1 = some (r1, r2)) ∧ Aside0 (kq ≤ k) ∧ Aside0 (Kd.R (Kd.int .i64) 3 w' w.heap.size (fun _ => True) (.slice Ao9 t292.length co9) x4_1) ∧ Aside0 (w'.heap[gb288]? = some (.cells #[(.slice A0_0 l0_0.length c0_0), (.slice A0_1 l0_1.length c0_1)] 44 (0, 0))) ∧ Aside0 (Below w.heap.size w w'))
  case atStart => exact ⟨(t292), (0), (0), (by first | rfl | (simp; done) | (simp [*]; done)), (by first | rfl | (simp; done) | (simp [*]; done)), H', ⟨Nat.le_refl _⟩, ⟨by (with_reducible repeat (first | apply Kd.R_alloc | apply Kd.R_drewN | apply Kd.R_drew)); exact Kd.R_mono HO294.out (fun _ hk => trivial)⟩, ⟨by (with_reducible repeat (first | refine blk_drewN ?_ _ | refine blk_drew ?_ | refine blk_alloc ?_ _)); exact BK288.out⟩, ⟨by repeat (first | (with_reducible first | exact HB.out | apply below_alloc | apply pw_below_drewN | apply below_drew1 | refine below_set ?_ GE288.out) | exact HB.out)⟩⟩
  case round =>
    clear H'
    try clear c1
    try clear p2
    try clear c9
    try clear hcz6_0
    try clear hcz6_1
    try clear hfz6_0
    try clear hfz6_1
    obtain ⟨x4_1, x5_1, x16_1, rfl, rfl, HA, HK1, HO_4, BK288, HB⟩ := hrel
    have hl4_1 := (Kd.R_reads' HO_4.out).1
    rw [hl4_1] at HO_4
    (try simp only [hl4_1])
    (try simp only [hl4_1] at BK288)
    cases gk with
    | zero => exact absurd HA.out (by simp [impl_Meander_curves.l0])
    | succ k1 =>
      have H := HA.out
      clear HA
      simp only [impl_Meander_curves.l0] at H
      by_cases c10 : x16_1 < (t292.length : Int)
      · rw [if_pos c10] at H
        have c10b0 : decide (x16_1 < (t292.length : Int)) = true := decide_eq_true c10
        (try simp only [hl4_1] at c10b0)
        clear c10
        by_cases c11 : 0 ≤ x16_1
        · rw [if_pos c11] at H
          have c11b0 : decide (0 ≤ x16_1) = true := decide_eq_true c11
          clear c11
          by_cases c12 : x16_1 < (x4_1.length : Int)
          · rw [if_pos c12] at H
            have c12b0 : decide (x16_1 < (x4_1.length : Int)) = true := decide_eq_true c12
            (try simp only [hl4_1] at c12b0)
            clear c12
            by_cases c13 : (rd x4_1 x16_1) ≥ 0
            · rw [if_pos c13] at H
              have c13b0 : decide (0 ≤ (rd x4_1 x16_1)) = true := decide_eq_true c13
              clear c13
              have H' := Aside0.mk H
              clear H
              have p295 : 0 ≤ (x16_1 : Int) := of_decide_eq_true (by first | (with_reducible assumption) | assumption)
              have q295 : x16_1 < (x4_1.length : Int) := of_decide_eq_true (by first | (with_reducible assumption) | assumption)
              obtain ⟨ad295, e295, hx295_0⟩ := Kd.at_int (Kd.R_reads' HO_4.out).2.2 x16_1 p295 q295
              cases e295
              replace p295 := eq_true p295
              replace q295 := eq_true q295
              go_wp2
              (try simp only [← hl4_1])
              go_roundg k1
              case measure => have := HK1.out; omega
              case rel => exact ⟨(x4_1), (x5_1), (wrap64 (x16_1 + 1)), (by first | rfl | (simp; done) | (simp [*]; done)), (by first | rfl | (simp; done) | (simp [*]; done)), H', ⟨by have := HK1.out; omega⟩, ⟨by (try simp only [hl4_1]); (with_reducible repeat (first | apply Kd.R_alloc | apply Kd.R_drewN | apply Kd.R_drew)); exact HO_4.out⟩, ⟨by (try simp only [hl4_1]); (with_reducible repeat (first | refine blk_drewN ?_ _ | refine blk_drew ?_ | refine blk_alloc ?_ _)); exact BK288.out⟩, ⟨by repeat (first | (with_reducible first | exact HB.out | apply below_alloc | apply pw_below_drewN | apply below_drew1 | refine below_set ?_ GE288.out) | exact HB.out)⟩⟩
            · rw [if_neg c13] at H
              have c13b0 : decide (0 ≤ (rd x4_1 x16_1)) = false := decide_eq_false c13
              clear c13
              replace H := Option.bind_eq_some_iff.mp H
              obtain ⟨t296, A140, H⟩ := H
              replace H : (impl_Meander_curves.l1 k1 x4_1 x5_1 (t292.length : Int) x16_1 t296 (t296.length : Int) 0 l0_0 l0_1) = some (r1, r2) := H
              have A14 := Aside0.mk A140
              clear A140
              have H' := Aside0.mk H
              clear H
              have p295 : 0 ≤ (x16_1 : Int) := of_decide_eq_true (by first | (with_reducible assumption) | assumption)
              have q295 : x16_1 < (x4_1.length : Int) := of_decide_eq_true (by first | (with_reducible assumption) | assumption)
              obtain ⟨ad295, e295, hx295_0⟩ := Kd.at_int (Kd.R_reads' HO_4.out).2.2 x16_1 p295 q295
              cases e295
              replace p295 := eq_true p295
              replace q295 := eq_true q295
              have hcz15_0 : wr.cell? ⟨gb288, 0, none⟩ = some (.slice A0_0 l0_0.length c0_0) := (blk_cell BK288.out 0).trans rfl
              have hcz15_1 : wr.cell? ⟨gb288, 1, none⟩ = some (.slice A0_1 l0_1.length c0_1) := (blk_cell BK288.out 1).trans rfl
              have hfz15_0 := blk_frozen BK288.out 0
              have hfz15_1 := blk_frozen BK288.out 1
              go_wp2_with (first | ((with_reducible refine gate_callee (f := 104) rfl ?_); refine goesL_ (some 26) rfl rfl Try.func104 (by kernel_rfl) rfl #[.agg #[.slice A0_0 l0_0.length c0_0, .slice A0_1 l0_1.length c0_1], .int .i64 x16_1] rfl (by (try simp only [List.map_toArray, List.map_cons, List.map_nil]); first | done | rfl | (simp only [List.length_drop, List.length_take]; rfl)) ?_; (with_reducible refine (impl_Meander_way.calls k1 _ _ l0_0 _ _ l0_1 x16_1 t296 _ ?side1 ?side2 ?side3 ?side4 A14.out).mono ?_); (case side1 => repeat (first | exact (Kd.C_below HR0_0.out HB.out) | (with_reducible refine Kd.C_alloc ?_ _) | (with_reducible refine Kd.C_drewN ?_ _) | (with_reducible refine Kd.C_drew ?_))); (case side2 => exact HC0_0.out); (case side3 => repeat (first | exact (Kd.C_below HR0_1.out HB.out) | (with_reducible refine Kd.C_alloc ?_ _) | (with_reducible refine Kd.C_drewN ?_ _) | (with_reducible refine Kd.C_drew ?_))); (case side4 => exact HC0_1.out); rintro e w16 ⟨v297, rfl, ho0, hb⟩; refine ⟨_, rfl, ?_⟩; have n0_ := Aside0.mk (Kd.R_elder' (by (with_reducible repeat (first | apply Kd.R_alloc | apply Kd.R_drewN | apply Kd.R_drew)); exact HO_4.out) (Kd.R_base ho0) hb); have n1_ := Aside0.mk (Kd.R_lower (Kd.R_new' ho0 (Kd.R_lt (by (with_reducible repeat (first | apply Kd.R_alloc | apply Kd.R_drewN | apply Kd.R_drew)); exact HO_4.out))) (below_size (by repeat (first | (with_reducible first | exact HB.out | apply below_alloc | apply pw_below_drewN | apply below_drew1 | refine below_set ?_ GE288.out) | exact HB.out)))); have n2_ := Aside0.mk (blk_below (g := gb288) (o := .cells #[.slice A0_0 l0_0.length c0_0, .slice A0_1 l0_1.length c0_1] 44 (0, 0)) (by (with_reducible repeat (first | refine blk_drewN ?_ _ | refine blk_drew ?_ | refine blk_alloc ?_ _)); exact BK288.out) hb); have n3_ := Aside0.mk (below_step (by repeat (first | (with_reducible first | exact HB.out | apply below_alloc | apply pw_below_drewN | apply below_drew1 | refine below_set ?_ GE288.out) | exact HB.out)) hb); clear HO_4; clear BK288; clear HB; have HO_4 := n0_; have HO298 := n1_; have BK288 := n2_; have HB := n3_; clear n0_ n1_ n2_ n3_; (try clear hb); (try clear hb2); (try clear hk); (try clear hi); (try clear ho0); obtain ⟨Ao17, co17, eo17⟩ := Kd.R_slice HO298.out; subst eo17))
              go_loopg [28] k1 (fun kq v28 w' => ∃ (x4_2 : List Int) (x28_2 : Int), v28 = .int .i64 x28_2 ∧ Aside0 (impl_Meander_curves.l1 kq x4_2 x5_1 (t292.length : Int) x16_1 t296 (t296.length : Int) x28_2 l0_0 l0_1 = some (r1, r2)) ∧ Aside0 (kq ≤ k1) ∧ Aside0 (Kd.R (Kd.int .i64) 3 w' w.heap.size (fun k_ => some k_ ≠ ((.slice Ao17 t296.length co17) : Value).ownBlock) (.slice (some ad295) x4_1.length co9) x4_2) ∧ Aside0 (Kd.R (Kd.int .i64) 3 w' w.heap.size (fun k_ => some k_ ≠ ((.slice (some ad295) x4_1.length co9) : Value).ownBlock) (.slice Ao17 t296.length co17) t296) ∧ Aside0 (w'.heap[gb288]? = some (.cells #[(.slice A0_0 l0_0.length c0_0), (.slice A0_1 l0_1.length c0_1)] 44 (0, 0))) ∧ Aside0 (Below w.heap.size w w'))
              case atStart => exact ⟨(x4_1), (0), (by first | rfl | (simp; done) | (simp [*]; done)), H', ⟨Nat.le_refl _⟩, ⟨by (try simp only [hl4_1]); (with_reducible repeat (first | apply Kd.R_alloc | apply Kd.R_drewN | apply Kd.R_drew)); exact Kd.R_mono HO_4.out (fun _ hk => hk.2)⟩, ⟨by (try simp only [hl4_1]); (with_reducible repeat (first | apply Kd.R_alloc | apply Kd.R_drewN | apply Kd.R_drew)); exact Kd.R_mono HO298.out (fun _ hk => hk.2)⟩, ⟨by (try simp only [hl4_1]); (with_reducible repeat (first | refine blk_drewN ?_ _ | refine blk_drew ?_ | refine blk_alloc ?_ _)); exact BK288.out⟩, ⟨by repeat (first | (with_reducible first | exact HB.out | apply below_alloc | apply pw_below_drewN | apply below_drew1 | refine below_set ?_ GE288.out) | exact HB.out)⟩⟩
              case round =>
                clear H'
                try clear c1
                try clear p2
                try clear q2
                try clear hx2
                try clear p6
                try clear c9
                try clear c10
                try clear c10b0
                try clear c11
                try clear c11b0
                try clear c12
                try clear c12b0
                try clear c13
                try clear c13b0
                try clear hcz15_0
                try clear hcz15_1
                try clear hcz6_0
                try clear hcz6_1
                try clear hfz15_0
                try clear hfz15_1
                try clear hfz6_0
                try clear hfz6_1
                try clear hx295_0
                try clear p2
                try clear p295
                try clear q295
                obtain ⟨x4_2, x28_2, rfl, HA, HK2, HO_4, HO_26, BK288, HB⟩ := hrel
                have hl4_2 := (Kd.R_reads' HO_4.out).1
                rw [hl4_2] at HO_4
                (try simp only [hl4_2])
                (try simp only [hl4_2] at BK288)
                (try simp only [hl4_2] at HO_26)
                cases gk with
                | zero => exact absurd HA.out (by simp [impl_Meander_curves.l1])
                | succ k2 =>
                  have H := HA.out
                  clear HA
                  simp only [impl_Meander_curves.l1] at H
                  by_cases c18 : x28_2 < (t296.length : Int)
                  · rw [if_pos c18] at H
                    have c18b0 : decide (x28_2 < (t296.length : Int)) = true := decide_eq_true c18
                    (try simp only [hl4_1] at c18b0)
                    (try simp only [hl4_2] at c18b0)
                    clear c18
                    by_cases c19 : 0 ≤ x28_2
                    · rw [if_pos c19] at H
                      have c19b0 : decide (0 ≤ x28_2) = true := decide_eq_true c19
                      clear c19
                      by_cases c20 : x28_2 < (t296.length : Int)
                      · rw [if_pos c20] at H
                        have c20b0 : decide (x28_2 < (t296.length : Int)) = true := decide_eq_true c20
                        (try simp only [hl4_1] at c20b0)
                        (try simp only [hl4_2] at c20b0)
                        clear c20
                        by_cases c21 : 0 ≤ (rd t296 x28_2)
                        · rw [if_pos c21] at H
                          have c21b0 : decide (0 ≤ (rd t296 x28_2)) = true := decide_eq_true c21
                          clear c21
                          by_cases c22 : (rd t296 x28_2) < (x4_2.length : Int)
                          · rw [if_pos c22] at H
                            have c22b0 : decide ((rd t296 x28_2) < (x4_2.length : Int)) = true := decide_eq_true c22
                            (try simp only [hl4_1] at c22b0)
                            (try simp only [hl4_2] at c22b0)
                            clear c22
                            obtain ⟨y300, hy300⟩ : ∃ y_ : List Int, y_ = (x4_2.set ((rd t296 x28_2) : Int).toNat x5_1) := ⟨_, rfl⟩
                            replace H : (impl_Meander_curves.l1 k2 y300 x5_1 (t292.length : Int) x16_1 t296 (t296.length : Int) (wrap64 (x28_2 + 1)) l0_0 l0_1) = some (r1, r2) := by first | (rw [hy300]; with_reducible exact H) | (have H2_ := (Option.bind_some _ _).symm.trans H; rw [hy300]; with_reducible exact H2_) | (have H2_ := (Option.bind_some _ _).symm.trans H; with_reducible exact H2_) | with_reducible exact H | (rw [hy300]; exact H) | exact H
                            have Ny300 := Aside0.mk hy300
                            clear hy300
                            have H' := Aside0.mk H
                            clear H
                            have p299 : 0 ≤ (x28_2 : Int) := of_decide_eq_true (by first | (with_reducible assumption) | assumption)
                            have q299 : x28_2 < (t296.length : Int) := of_decide_eq_true (by first | (with_reducible assumption) | assumption)
                            obtain ⟨ad299, e299, hx299_0⟩ := Kd.at_int (Kd.R_reads' HO_26.out).2.2 x28_2 p299 q299
                            cases e299
                            replace p299 := eq_true p299
                            replace q299 := eq_true q299
                            have p23 : 0 ≤ ((rd t296 x28_2) : Int) := of_decide_eq_true (by first | (with_reducible assumption) | assumption)
                            have q23 : ((rd t296 x28_2) : Int) < ((x4_2.length : Int) : Int) := of_decide_eq_true (by first | (with_reducible assumption) | assumption)
                            obtain ⟨go23, co23, eo23, gb23, gl23, cl23, HG23⟩ := Kd.R_form HO_4.out (by omega)
                            (first | cases eo23 | (injection eo23 with ea_ en_ ec_; (first | subst ea_ | (injection ea_ with ea_; subst ea_)); subst ec_; clear en_))
                            have GB23 := Aside0.mk gb23
                            have GG23 := Aside0.mk HG23
                            clear gb23 gl23 HG23
                            (first | simp only [add_plain] at hx295_0 | skip)
                            obtain ⟨hx23_0, hf23_0⟩ := Kd.R_celln 0 HO_4.out ((rd t296 x28_2) : Int) p23 q23
                            replace p23 := eq_true p23
                            replace q23 := eq_true q23
                            have HP24 := Kd.R_putg HO_4.out ((rd t296 x28_2) : Int) x5_1
                            go_wp2_with (first | ((with_reducible refine gate_store (t := 3) (p := 35) rfl ?_); refine store_event (t := 3) (p := 35) (v := ?vo_w25) (w1 := (wr.setCell ⟨go23, ((rd t296 x28_2) : Int).toNat, none⟩ (.int .i64 x5_1))) ?hg ?ho ?hn ?hr ?_; (case ho => rfl); (case hg => rfl); (case hn => rfl); (case hr => first | (go_simp; done) | (go_simp; rfl)); intro w25 hw; have hg : wr.grownBy w25 (some go23) := (by rw [hw]; exact HP24.2); have hp_ : Kd.R (Kd.int .i64) 3 w25 w.heap.size (fun k_ => some k_ ≠ (.slice (some ad299) t296.length co17 : Value).ownBlock) (.slice (some ⟨go23, 0, none⟩) x4_2.length co9) y300 := (by rw [hw, Ny300.out]; exact HP24.1); clear HP24; have n0_ := Aside0.mk (hp_); have n1_ := Aside0.mk (Kd.R_after (v := (.slice (some ⟨go23, 0, none⟩) x4_2.length co9)) (v1 := (.slice (some ⟨go23, 0, none⟩) x4_2.length co9)) (ok := (fun _ => True)) (by (with_reducible repeat (first | apply Kd.R_alloc | apply Kd.R_drewN | apply Kd.R_drew)); exact Kd.R_mono HO_26.out (fun _ hk => ⟨trivial, hk⟩)) hg (.inl rfl)); have n2_ := Aside0.mk (blk_grown (g := gb288) (o := .cells #[.slice A0_0 l0_0.length c0_0, .slice A0_1 l0_1.length c0_1] 44 (0, 0)) (by (with_reducible repeat (first | refine blk_drewN ?_ _ | refine blk_drew ?_ | refine blk_alloc ?_ _)); exact BK288.out) hg (Kd.R_ne HO_4.out BK288.out (by decide))); have n3_ := Aside0.mk ((by rw [hw]; exact below_set (HB.out) GB23.out : Below w.heap.size w w25)); clear HO_4; clear HO_26; clear BK288; clear HB; have HO_4 := n0_; have HO_26 := n1_; have BK288 := n2_; have HB := n3_; clear n0_ n1_ n2_ n3_; clear hg hw hp_))
                            (try simp only [← hl4_2])
                            go_roundg k2
                            case measure => have := HK1.out; have := HK2.out; omega
                            case rel => exact ⟨(y300), (wrap64 (x28_2 + 1)), (by first | rfl | (simp; done) | (simp [*]; done)), H', ⟨by have := HK1.out; have := HK2.out; omega⟩, ⟨by (try simp only [hl4_1]); (try simp only [hl4_2]); (with_reducible repeat (first | apply Kd.R_alloc | apply Kd.R_drewN | apply Kd.R_drew)); exact HO_4.out⟩, ⟨by (try simp only [hl4_1]); (try simp only [hl4_2]); (with_reducible repeat (first | apply Kd.R_alloc | apply Kd.R_drewN | apply Kd.R_drew)); exact Kd.R_mono HO_26.out (fun _ hk => hk.2)⟩, ⟨by (try simp only [hl4_1]); (try simp only [hl4_2]); (with_reducible repeat (first | refine blk_drewN ?_ _ | refine blk_drew ?_ | refine blk_alloc ?_ _)); exact BK288.out⟩, ⟨by repeat (first | (with_reducible first | exact HB.out | apply below_alloc | apply pw_below_drewN | apply below_drew1 | refine below_set ?_ GE288.out) | exact HB.out)⟩⟩
                          · rw [if_neg c22] at H
                            exact absurd H (by simp)
                        · rw [if_neg c21] at H
                          exact absurd H (by simp)
                      · rw [if_neg c20] at H
                        exact absurd H (by simp)
                    · rw [if_neg c19] at H
                      exact absurd H (by simp)
                  · rw [if_neg c18] at H
                    have c18b0 : decide (x28_2 < (t296.length : Int)) = false := decide_eq_false c18
                    (try simp only [hl4_1] at c18b0)
                    (try simp only [hl4_2] at c18b0)
                    clear c18
                    have H' := Aside0.mk H
                    clear H
                    go_wp2
                    (try simp only [← hl4_1, ← hl4_2])
                    go_roundg k2
                    case measure => have := HK1.out; have := HK2.out; omega
                    case rel => exact ⟨(x4_2), (wrap64 (x5_1 + 1)), (wrap64 (x16_1 + 1)), (by first | rfl | (simp; done) | (simp [*]; done)), (by first | rfl | (simp; done) | (simp [*]; done)), H', ⟨by have := HK1.out; have := HK2.out; omega⟩, ⟨by (try simp only [hl4_1]); (try simp only [hl4_2]); (with_reducible repeat (first | apply Kd.R_alloc | apply Kd.R_drewN | apply Kd.R_drew)); exact Kd.R_mono HO_4.out (fun _ hk => trivial)⟩, ⟨by (try simp only [hl4_1]); (try simp only [hl4_2]); (with_reducible repeat (first | refine blk_drewN ?_ _ | refine blk_drew ?_ | refine blk_alloc ?_ _)); exact BK288.out⟩, ⟨by repeat (first | (with_reducible first | exact HB.out | apply below_alloc | apply pw_below_drewN | apply below_drew1 | refine below_set ?_ GE288.out) | exact HB.out)⟩⟩
          · rw [if_neg c12] at H
            exact absurd H (by simp)
        · rw [if_neg c11] at H
          exact absurd H (by simp)
      · rw [if_neg c10] at H
        have c10b0 : decide (x16_1 < (t292.length : Int)) = false := decide_eq_false c10
        (try simp only [hl4_1] at c10b0)
        (try simp only [hl4_2] at c10b0)
        clear c10
        simp only [Option.some.injEq, Prod.mk.injEq] at H
        obtain ⟨rfl, rfl⟩ := H
        go_wp2
        go_ret2
        exact ⟨_, by first | rfl | (simp [errW_none, errW_some] <;> rfl) | (simp [*, errW_none, errW_some] <;> rfl), by (with_reducible repeat (first | apply Kd.R_alloc | apply Kd.R_drewN | apply Kd.R_drew)); exact HO_4.out, by repeat (first | (with_reducible first | exact HB.out | apply below_alloc | apply pw_below_drewN | apply below_drew1 | refine below_set ?_ GE288.out) | exact HB.out)⟩

/-! ### impl_Meander_components: function 69 -/
def impl_Meander_components.f (k : Nat) (l0_0 : List Int) (l0_1 : List Int) : Option (Int) := (impl_Meander_curves.f k l0_0 l0_1).bind fun bt302 => (some bt302.2)
theorem impl_Meander_components.mono : ∀ a0 a1 k, LeO (impl_Meander_components.f k a0 a1) (impl_Meander_components.f (k + 1) a0 a1) := by
  intro a0 a1 k
  unfold impl_Meander_components.f
  repeat' first
      | (with_reducible exact impl_Meander_curves.mono _ _ _)
      | (with_reducible exact LeO.refl _)
      | (with_reducible exact LeO.none _)
      | (with_reducible refine LeO.ite ?_ ?_)
      | (with_reducible refine LeO.bind ?_ (fun _ => ?_))
      | exact impl_Meander_curves.mono _ _ _
      | exact LeO.none _
      | refine LeO.ite ?_ ?_
      | refine LeO.bind ?_ (fun _ => ?_)
set_option maxHeartbeats 8000000 in
set_option maxRecDepth 100000 in
theorem impl_Meander_components.calls (k : Nat) (A0_0 : Option Addr) (c0_0 : Nat) (l0_0 : List Int) (A0_1 : Option Addr) (c0_1 : Nat) (l0_1 : List Int) (r : Int) (w : World) (hr0_0 : Kd.C (Kd.int .i64) w A0_0 l0_0.length l0_0) (hc0_0 : l0_0.length ≤ c0_0) (hr0_1 : Kd.C (Kd.int .i64) w A0_1 l0_1.length l0_1) (hc0_1 : l0_1.length ≤ c0_1) (h : impl_Meander_components.f k l0_0 l0_1 = some r) :
    Calls Try.prog 69 #[.agg #[.slice A0_0 l0_0.length c0_0, .slice A0_1 l0_1.length c0_1]] w fun e w' => e = .returned (.int .i64 r) ∧ Below w.heap.size w w' := by
  have hu44 := Try.underlying44
  have HR0_0 := Aside0.mk hr0_0
  have HC0_0 := Aside0.mk hc0_0
  clear hr0_0 hc0_0
  have HR0_1 := Aside0.mk hr0_1
  have HC0_1 := Aside0.mk hc0_1
  clear hr0_1 hc0_1
  have HB := Aside0.mk (Below.refl w.heap.size w)
  have H : ((impl_Meander_curves.f k l0_0 l0_1).bind fun bt302 => (some bt302.2)) = some r := h
  clear h
  replace H := Option.bind_eq_some_iff.mp H
  obtain ⟨⟨t302, t305⟩, A20, H⟩ := H
  replace H : (some t305) = some r := H
  have A2 := Aside0.mk A20
  clear A20
  obtain rfl := Option.some.inj H
  go_enter Try.func69, Try.ntmps69
  go_wp2_with (first | ((with_reducible refine gate_dst (N := 1) rfl ?_); refine box_event ?hg (N := 1) ?hd (cs := #[.slice A0_0 l0_0.length c0_0, .slice A0_1 l0_1.length c0_1]) (t := 44) ?hr ?_; (case hd => rfl); (case hg => rfl); (case hr => first | (go_simp; done) | (go_simp; rfl)); intro gb301 hg w3 hbox hb; have n0_ := Aside0.mk (below_step (by repeat (first | (with_reducible first | exact HB.out | apply below_alloc | apply pw_below_drewN | apply below_drew1) | exact HB.out)) hb); have n1_ := Aside0.mk (hbox); have n2_ := Aside0.mk ((by rw [hg]; exact (below_size (by repeat (first | (with_reducible first | exact HB.out | apply below_alloc | apply pw_below_drewN | apply below_drew1) | exact HB.out))) : w.heap.size ≤ gb301)); have n3_ := Aside0.mk ((by rw [hg]; exact (below_size (by repeat (first | (with_reducible first | exact HB.out | apply below_alloc | apply pw_below_drewN | apply below_drew1) | exact HB.out))) : w.heap.size ≤ gb301)); clear HB; have HB := n0_; have BK301 := n1_; have GW301 := n2_; have GE301 := n3_; clear n0_ n1_ n2_ n3_; clear hb hbox hg; have hcz4_0 : w3.cell? ⟨gb301, 0, none⟩ = some (.slice A0_0 l0_0.length c0_0) := (blk_cell BK301.out 0).trans rfl; have hcz4_1 : w3.cell? ⟨gb301, 1, none⟩ = some (.slice A0_1 l0_1.length c0_1) := (blk_cell BK301.out 1).trans rfl; have hfz4_0 := blk_frozen BK301.out 0; have hfz4_1 := blk_frozen BK301.out 1) | ((with_reducible refine gate_callee (f := 93) rfl ?_); refine goesL_ (some 7) rfl rfl Try.func93 (by kernel_rfl) rfl #[.agg #[.slice A0_0 l0_0.length c0_0, .slice A0_1 l0_1.length c0_1]] rfl (by (try simp only [List.map_toArray, List.map_cons, List.map_nil]); first | done | rfl | (simp only [List.length_drop, List.length_take]; rfl)) ?_; (with_reducible refine (impl_Meander_curves.calls k _ _ l0_0 _ _ l0_1 t302 t305 _ ?side1 ?side2 ?side3 ?side4 A2.out).mono ?_); (case side1 => repeat (first | exact (Kd.C_below HR0_0.out HB.out) | (with_reducible refine Kd.C_alloc ?_ _) | (with_reducible refine Kd.C_drewN ?_ _) | (with_reducible refine Kd.C_drew ?_))); (case side2 => exact HC0_0.out); (case side3 => repeat (first | exact (Kd.C_below HR0_1.out HB.out) | (with_reducible refine Kd.C_alloc ?_ _) | (with_reducible refine Kd.C_drewN ?_ _) | (with_reducible refine Kd.C_drew ?_))); (case side4 => exact HC0_1.out); rintro e w5 ⟨v303, rfl, ho0, hb⟩; refine ⟨_, rfl, ?_⟩; have n0_ := Aside0.mk (Kd.R_lower ho0 (below_size (by repeat (first | (with_reducible first | exact HB.out | apply below_alloc | apply pw_below_drewN | apply below_drew1 | refine below_set ?_ GE301.out) | exact HB.out)))); have n1_ := Aside0.mk (blk_below (g := gb301) (o := .cells #[.slice A0_0 l0_0.length c0_0, .slice A0_1 l0_1.length c0_1] 44 (0, 0)) (by (with_reducible repeat (first | refine blk_drewN ?_ _ | refine blk_drew ?_ | refine blk_alloc ?_ _)); exact BK301.out) hb); have n2_ := Aside0.mk (below_step (by repeat (first | (with_reducible first | exact HB.out | apply below_alloc | apply pw_below_drewN | apply below_drew1 | refine below_set ?_ GE301.out) | exact HB.out)) hb); clear BK301; clear HB; have HO304 := n0_; have BK301 := n1_; have HB := n2_; clear n0_ n1_ n2_; (try clear hb); (try clear hb2); (try clear hk); (try clear hi); (try clear ho0)))
  go_ret
  exact ⟨by first | rfl | (simp [errW_none, errW_some] <;> rfl) | (simp [*, errW_none, errW_some] <;> rfl), by repeat (first | (with_reducible first | exact HB.out | apply below_alloc | apply pw_below_drewN | apply below_drew1 | refine below_set ?_ GE301.out) | exact HB.out)⟩

/-! ### impl_Meander_isOne: function 75 -/
def impl_Meander_isOne.f (k : Nat) (l0_0 : List Int) (l0_1 : List Int) : Option (Bool) := (impl_Meander_components.f k l0_0 l0_1).bind fun t307 => (some (t307 == 1))
theorem impl_Meander_isOne.mono : ∀ a0 a1 k, LeO (impl_Meander_isOne.f k a0 a1) (impl_Meander_isOne.f (k + 1) a0 a1) := by
  intro a0 a1 k
  unfold impl_Meander_isOne.f
  repeat' first
      | (with_reducible exact impl_Meander_components.mono _ _ _)
      | (with_reducible exact LeO.refl _)
      | (with_reducible exact LeO.none _)
      | (with_reducible refine LeO.ite ?_ ?_)
      | (with_reducible refine LeO.bind ?_ (fun _ => ?_))
      | exact impl_Meander_components.mono _ _ _
      | exact LeO.none _
      | refine LeO.ite ?_ ?_
      | refine LeO.bind ?_ (fun _ => ?_)
set_option maxHeartbeats 8000000 in
set_option maxRecDepth 100000 in
theorem impl_Meander_isOne.calls (k : Nat) (A0_0 : Option Addr) (c0_0 : Nat) (l0_0 : List Int) (A0_1 : Option Addr) (c0_1 : Nat) (l0_1 : List Int) (r : Bool) (w : World) (hr0_0 : Kd.C (Kd.int .i64) w A0_0 l0_0.length l0_0) (hc0_0 : l0_0.length ≤ c0_0) (hr0_1 : Kd.C (Kd.int .i64) w A0_1 l0_1.length l0_1) (hc0_1 : l0_1.length ≤ c0_1) (h : impl_Meander_isOne.f k l0_0 l0_1 = some r) :
    Calls Try.prog 75 #[.agg #[.slice A0_0 l0_0.length c0_0, .slice A0_1 l0_1.length c0_1]] w fun e w' => e = .returned (.bool r) ∧ Below w.heap.size w w' := by
  have hu44 := Try.underlying44
  have HR0_0 := Aside0.mk hr0_0
  have HC0_0 := Aside0.mk hc0_0
  clear hr0_0 hc0_0
  have HR0_1 := Aside0.mk hr0_1
  have HC0_1 := Aside0.mk hc0_1
  clear hr0_1 hc0_1
  have HB := Aside0.mk (Below.refl w.heap.size w)
  have H : ((impl_Meander_components.f k l0_0 l0_1).bind fun t307 => (some (t307 == 1))) = some r := h
  clear h
  replace H := Option.bind_eq_some_iff.mp H
  obtain ⟨t307, A20, H⟩ := H
  replace H : (some (t307 == 1)) = some r := H
  have A2 := Aside0.mk A20
  clear A20
  obtain rfl := Option.some.inj H
  go_enter Try.func75, Try.ntmps75
  go_wp2_with (first | ((with_reducible refine gate_dst (N := 1) rfl ?_); refine box_event ?hg (N := 1) ?hd (cs := #[.slice A0_0 l0_0.length c0_0, .slice A0_1 l0_1.length c0_1]) (t := 44) ?hr ?_; (case hd => rfl); (case hg => rfl); (case hr => first | (go_simp; done) | (go_simp; rfl)); intro gb306 hg w3 hbox hb; have n0_ := Aside0.mk (below_step (by repeat (first | (with_reducible first | exact HB.out | apply below_alloc | apply pw_below_drewN | apply below_drew1) | exact HB.out)) hb); have n1_ := Aside0.mk (hbox); have n2_ := Aside0.mk ((by rw [hg]; exact (below_size (by repeat (first | (with_reducible first | exact HB.out | apply below_alloc | apply pw_below_drewN | apply below_drew1) | exact HB.out))) : w.heap.size ≤ gb306)); have n3_ := Aside0.mk ((by rw [hg]; exact (below_size (by repeat (first | (with_reducible first | exact HB.out | apply below_alloc | apply pw_below_drewN | apply below_drew1) | exact HB.out))) : w.heap.size ≤ gb306)); clear HB; have HB := n0_; have BK306 := n1_; have GW306 := n2_; have GE306 := n3_; clear n0_ n1_ n2_ n3_; clear hb hbox hg; have hcz4_0 : w3.cell? ⟨gb306, 0, none⟩ = some (.slice A0_0 l0_0.length c0_0) := (blk_cell BK306.out 0).trans rfl; have hcz4_1 : w3.cell? ⟨gb306, 1, none⟩ = some (.slice A0_1 l0_1.length c0_1) := (blk_cell BK306.out 1).trans rfl; have hfz4_0 := blk_frozen BK306.out 0; have hfz4_1 := blk_frozen BK306.out 1) | ((with_reducible refine gate_callee (f := 69) rfl ?_); refine goesL_ (some 4) rfl rfl Try.func69 (by kernel_rfl) rfl #[.agg #[.slice A0_0 l0_0.length c0_0, .slice A0_1 l0_1.length c0_1]] rfl (by (try simp only [List.map_toArray, List.map_cons, List.map_nil]); first | done | rfl | (simp only [List.length_drop, List.length_take]; rfl)) ?_; (with_reducible refine (impl_Meander_components.calls k _ _ l0_0 _ _ l0_1 t307 _ ?side1 ?side2 ?side3 ?side4 A2.out).mono ?_); (case side1 => repeat (first | exact (Kd.C_below HR0_0.out HB.out) | (with_reducible refine Kd.C_alloc ?_ _) | (with_reducible refine Kd.C_drewN ?_ _) | (with_reducible refine Kd.C_drew ?_))); (case side2 => exact HC0_0.out); (case side3 => repeat (first | exact (Kd.C_below HR0_1.out HB.out) | (with_reducible refine Kd.C_alloc ?_ _) | (with_reducible refine Kd.C_drewN ?_ _) | (with_reducible refine Kd.C_drew ?_))); (case side4 => exact HC0_1.out); rintro e w5 ⟨rfl, hb⟩; refine ⟨_, rfl, ?_⟩; have n0_ := Aside0.mk (blk_below (g := gb306) (o := .cells #[.slice A0_0 l0_0.length c0_0, .slice A0_1 l0_1.length c0_1] 44 (0, 0)) (by (with_reducible repeat (first | refine blk_drewN ?_ _ | refine blk_drew ?_ | refine blk_alloc ?_ _)); exact BK306.out) hb); have n1_ := Aside0.mk (below_step (by repeat (first | (with_reducible first | exact HB.out | apply below_alloc | apply pw_below_drewN | apply below_drew1 | refine below_set ?_ GE306.out) | exact HB.out)) hb); clear BK306; clear HB; have BK306 := n0_; have HB := n1_; clear n0_ n1_; (try clear hb); (try clear hb2); (try clear hk); (try clear hi)))
  go_ret
  exact ⟨by first | rfl | (simp [errW_none, errW_some] <;> rfl) | (simp [*, errW_none, errW_some] <;> rfl), by repeat (first | (with_reducible first | exact HB.out | apply below_alloc | apply pw_below_drewN | apply below_drew1 | refine below_set ?_ GE306.out) | exact HB.out)⟩

-- NOT PRINTED: function 96 (impl_meanders_1)

/-! ### impl_meanders: function 71 (by hand) -/
/-- What a test keeps, where the test has a value at each. -/
def filtM (φ : S44 → Option Bool) : List S44 → Option (List S44)
  | [] => some []
  | x :: xs => (φ x).bind fun b => (filtM φ xs).bind fun ys => some (if b = true then x :: ys else ys)
theorem filtM_mono {φ ψ : S44 → Option Bool} (h : ∀ x, LeO (φ x) (ψ x)) : ∀ xs, LeO (filtM φ xs) (filtM ψ xs)
  | [] => LeO.refl _
  | x :: xs => LeO.bind (h x) (fun _ => LeO.bind (filtM_mono h xs) (fun _ => LeO.refl _))
theorem filtM_some {φ : S44 → Option Bool} : ∀ {xs ys}, filtM φ xs = some ys → ∃ p : S44 → Bool, (∀ x, x ∈ xs → φ x = some (p x)) ∧ ys = xs.filter p := by
  intro xs ys h
  refine ⟨fun x => (φ x).getD false, ?_⟩
  induction xs generalizing ys with
  | nil => exact ⟨fun x hx => by simp at hx, by simpa [filtM] using h.symm⟩
  | cons x xs ih =>
    obtain ⟨b, hb, h⟩ := Option.bind_eq_some_iff.1 h
    obtain ⟨zs, hz, h⟩ := Option.bind_eq_some_iff.1 h
    obtain ⟨h1, h2⟩ := ih hz
    injection h with h
    refine ⟨fun y hy => ?_, ?_⟩
    · rcases List.mem_cons.1 hy with rfl | hy
      · simp [hb]
      · exact h1 y hy
    · rw [← h, List.filter_cons, hb, h2]; rfl
def impl_meanders.f (k : Nat) (a0 : Int) : Option (List S44) := (impl_pairs.f k a0).bind fun xs => (if 0 < xs.length ∧ xs.length < 4611686018427387904 then filtM (fun q => impl_Meander_isOne.f k q.f0 q.f1) xs else none)
theorem impl_meanders.mono : ∀ a0 k, LeO (impl_meanders.f k a0) (impl_meanders.f (k + 1) a0) := by
  intro a0 k
  unfold impl_meanders.f
  exact LeO.bind (impl_pairs.mono a0 k) (fun xs => LeO.ite (filtM_mono (fun x => impl_Meander_isOne.mono x.f0 x.f1 k) xs) (LeO.refl _))
theorem impl_meanders.clo (k : Nat) (A0_0 : Option Addr) (c0_0 : Nat) (l0_0 : List Int) (A0_1 : Option Addr) (c0_1 : Nat) (l0_1 : List Int) (r : Bool) (w : World) (hr0_0 : Kd.C (Kd.int .i64) w A0_0 l0_0.length l0_0) (hc0_0 : l0_0.length ≤ c0_0) (hr0_1 : Kd.C (Kd.int .i64) w A0_1 l0_1.length l0_1) (hc0_1 : l0_1.length ≤ c0_1) (h : impl_Meander_isOne.f k l0_0 l0_1 = some r) :
    Calls Try.prog 96 (#[.agg #[.slice A0_0 l0_0.length c0_0, .slice A0_1 l0_1.length c0_1]] ++ #[]) w fun e w' => e = .returned (.bool (!r)) ∧ Below w.heap.size w w' := by
  have hu := Try.underlying44
  have HC := Aside0.mk (fun (W : World) (hb : Below w.heap.size w W) => impl_Meander_isOne.calls k A0_0 c0_0 l0_0 A0_1 c0_1 l0_1 r W (Kd.C_below hr0_0 hb) hc0_0 (Kd.C_below hr0_1 hb) hc0_1 h)
  clear hr0_0 hc0_0 hr0_1 hc0_1 h
  go_enter Try.func96, Try.ntmps96
  go_wp2_with (first | ((with_reducible refine gate_dst (N := 1) rfl ?_); refine box_event ?hg (N := 1) ?hd (cs := #[.slice A0_0 l0_0.length c0_0, .slice A0_1 l0_1.length c0_1]) (t := 44) ?hr ?_; (case hd => rfl); (case hg => rfl); (case hr => first | (go_simp; done) | (go_simp; rfl)); intro gb hgb w1 hbox hb; have HB1 := Aside0.mk hb; have hz0 : w1.cell? ⟨gb, 0, none⟩ = some (.slice A0_0 l0_0.length c0_0) := (blk_cell hbox 0).trans rfl; have hz1 : w1.cell? ⟨gb, 1, none⟩ = some (.slice A0_1 l0_1.length c0_1) := (blk_cell hbox 1).trans rfl; clear hb hbox hgb) | (go_at_call 75; refine (HC.out _ HB1.out).mono ?_; rintro e w' ⟨rfl, hb⟩; have HB := Aside0.mk (below_step HB1.out hb); clear hb))
  go_ret
  exact ⟨rfl, HB.out⟩

section
variable {bb : Nat}
def zG : S44 × Value × Value := (z44, .slice none 0 0, .slice none 0 0)
def rdG (xs : List (S44 × Value × Value)) (i : Int) : S44 × Value × Value := xs.getD i.toNat zG
theorem gPr_openF {W : World} {ok : Nat → Prop} {x : S44 × Value × Value} {cs : List Value} (h : Kd.FK (gPr bb) W ok x cs) : ∃ A0 c0 A1 c1, cs = [.slice A0 x.1.f0.length c0, .slice A1 x.1.f1.length c1] ∧ True := by
  obtain ⟨A0, c0, A1, c1, e, _⟩ := k44_open (gPr_k _ _ _ _ (Kd.FK_now h))
  exact ⟨A0, c0, A1, c1, e, trivial⟩
theorem atG {w : World} {A : Option Addr} {n : Nat} {xs : List (S44 × Value × Value)} (h : Kd.C (gPr bb) w A n xs) (i : Int) (h0 : 0 ≤ i) (h1 : i < n) : ∃ ad A0 c0 A1 c1, A = some ad ∧ w.cell? (ad.add (i.toNat * 2)) = some (.slice A0 (rdG xs i).1.f0.length c0) ∧ w.cell? ⟨(ad.add (i.toNat * 2)).block, (ad.add (i.toNat * 2)).off + 1, none⟩ = some (.slice A1 (rdG xs i).1.f1.length c1) ∧ (rdG xs i).1.f0.length ≤ c0 ∧ (Kd.int .i64).C w A0 (rdG xs i).1.f0.length (rdG xs i).1.f0 ∧ (rdG xs i).1.f1.length ≤ c1 ∧ (Kd.int .i64).C w A1 (rdG xs i).1.f1.length (rdG xs i).1.f1 := by
  obtain ⟨ad, c, e, _, hK, hc0⟩ := Kd.C_get h zG i h0 h1
  have hc : ∀ j u, c[j]? = some u → w.cell? (ad.add (i.toNat * 2 + j)) = some u := hc0
  obtain ⟨A0, c0, A1, c1, rfl, l0, g0, l1, g1⟩ := k44_open (gPr_k _ _ _ _ hK)
  exact ⟨ad, A0, c0, A1, c1, e, hc 0 _ rfl, by rw [← add_field _ _ 1 (by omega)]; exact hc 1 _ rfl, l0, g0, l1, g1⟩
/-! #### slices.IndexFunc and slices.DeleteFunc at pairs of rows, for a function value that may make memory -/
section
local instance delG.inh : Inhabited (S44 × Value × Value) := ⟨zG⟩
theorem delG.idx_spec {α : Type} (eq : α → α → Bool) (x : α) [Inhabited α] : ∀ (l : List α) (i : Nat), (Lib.idxByFrom eq x l i = -1 ∧ ∀ j, j < l.length → eq x l[j]! = false) ∨ ∃ k, k < l.length ∧ Lib.idxByFrom eq x l i = ((i + k : Nat) : Int) ∧ eq x l[k]! = true ∧ ∀ j, j < k → eq x l[j]! = false
  | [], _ => .inl ⟨rfl, fun j hj => absurd hj (Nat.not_lt_zero _)⟩
  | y :: r, i => by
    cases h : eq x y with
    | true => exact .inr ⟨0, by simp, by simp [Lib.idxByFrom, h], by simpa using h, fun j hj => absurd hj (Nat.not_lt_zero _)⟩
    | false =>
      rcases delG.idx_spec eq x r (i + 1) with ⟨e, ha⟩ | ⟨k, hk, e, ht, ha⟩
      · refine .inl ⟨by simp [Lib.idxByFrom, h, e], fun j hj => ?_⟩
        cases j with
        | zero => simpa using h
        | succ j => simpa using ha j (by simpa using hj)
      · refine .inr ⟨k + 1, by simpa using hk, by simp only [Lib.idxByFrom, h]; rw [show (if false = true then (i : Int) else Lib.idxByFrom eq x r (i + 1)) = Lib.idxByFrom eq x r (i + 1) from rfl, e]; congr 1; omega, by simpa using ht, fun j hj => ?_⟩
        cases j with
        | zero => simpa using h
        | succ j => simpa using ha j (by omega)
theorem delG.add0 (g m : Nat) : (⟨g, 0, none⟩ : Addr).add m = ⟨g, m, none⟩ := by
  unfold Addr.add
  by_cases h : m = 0 <;> simp [h]
theorem delG.at {w : World} {base : Nat} {ok : Nat → Prop} {g n c : Nat} {xs : List (S44 × Value × Value)} (hN : Kd.N (gPr bb) 44 w base ok (.slice (some ⟨g, 0, none⟩) n c) xs) (j : Nat) (hj : j < n) : ∃ (A0 : Option Addr) (m0 c0 : Nat) (A1 : Option Addr) (m1 c1 : Nat), w.cell? ⟨g, j * 2, none⟩ = some (.slice A0 m0 c0) ∧ w.cell? ⟨g, j * 2 + 1, none⟩ = some (.slice A1 m1 c1) ∧ Kd.FK (gPr bb) w (fun k => ok k ∧ k ≠ g) (rdG xs (j : Int)) [.slice A0 m0 c0, .slice A1 m1 c1] := by
  obtain ⟨ad, A0, c0, A1, c1, e, h0, h1, l0, r0, l1, r1⟩ := atG (Kd.N_reads' hN).2.2 (j : Int) (by omega) (by have := (Kd.N_reads' hN).1; omega)
  cases e
  obtain ⟨ce, hce, hM, hcc⟩ := Kd.N_get hN zG (j : Int) (by omega) (by omega)
  obtain ⟨ua0, uc0, ua1, uc1, rfl, _⟩ := gPr_openF hM
  have e0 := hcc 0 _ rfl
  have e1 := hcc 1 _ rfl
  rw [delG.add0, Int.toNat_natCast, show ((gPr bb)).sz = 2 from rfl] at e0 e1
  exact ⟨_, _, _, _, _, _, e0, e1, Kd.FK_mono hM (fun k hk => ⟨hk.1, fun e => hk.2 (by rw [e]; rfl)⟩)⟩
set_option maxHeartbeats 4000000 in
set_option maxRecDepth 1000000 in
theorem delG.index (p : (S44 × Value × Value) → Bool) (gf : Nat) (lb : Array Value) (eg : ∀ args w, (callFunc gf args).run Try.prog w = .ok (.enter gf args) w) {base : Nat} {ok : Nat → Prop} {g n c : Nat} {xs : List (S44 × Value × Value)} (w : World) (hN : Kd.N (gPr bb) 44 w base ok (.slice (some ⟨g, 0, none⟩) n c) xs) (hbig : n ≤ 9223372036854775807)
    (hp : ∀ (W : World) (x : (S44 × Value × Value)) (u0 u1 : Value), x ∈ xs → Below w.heap.size w W → ((gPr bb)).K W x [u0, u1] → Calls Try.prog gf (#[.agg #[u0, u1]] ++ lb) W fun e w' => e = .returned (.bool (p x)) ∧ Below W.heap.size W w') :
    Calls Try.prog 80 #[.slice (some ⟨g, 0, none⟩) n c, .func (.func gf) #[] lb] w fun e w' => e = .returned (.int .i64 (Lib.idxBy (fun _ y => p y) xs zG)) ∧ Below w.heap.size w w' := by
  have hu := Try.underlying44
  have hn : n = xs.length := (Kd.N_reads' hN).1
  have HN := Aside0.mk hN
  have HP := Aside0.mk hp
  have HL := Aside0.mk hn
  clear hp hN hn
  go_enter Try.func80, Try.ntmps80
  go_wp2
  go_loopg [5, 8] n (fun gg _ s8 wr => ∃ kk : Nat, kk ≤ n ∧ n - kk ≤ gg ∧ s8 = .int .i64 kk ∧ Aside0 (Below w.heap.size w wr) ∧ Aside0 (∀ j, j < kk → p xs[j]! = false))
  case atStart => exact ⟨0, Nat.zero_le _, by omega, rfl, ⟨Below.refl _ _⟩, ⟨fun j hj => absurd hj (Nat.not_lt_zero _)⟩⟩
  case round =>
    obtain ⟨kk, hkk, hg, rfl, HB, A⟩ := hrel
    by_cases hlt : kk < n
    · have hltz : (kk : Int) < (n : Int) := by omega
      obtain ⟨A0, m0, d0, A1, m1, d1, hc0, hc1, hF⟩ := delG.at (Kd.N_below HN.out HB.out) kk hlt
      have hrd : rdG xs (kk : Int) = xs[kk]! := by
        unfold rdG
        rw [Int.toNat_natCast, List.getD_eq_getElem?_getD, List.getElem!_eq_getElem?_getD]
        rfl
      rw [hrd] at hF
      generalize hy : xs[kk]! = y at hF
      have B : Aside0 (xs[kk]! = y) := ⟨hy⟩
      clear hy hrd
      have hcall := HP.out wr y _ _ (by rw [← B.out, getElem!_pos xs kk (by have := HL.out; omega)]; exact List.getElem_mem _) HB.out (Foot.now hF)
      clear hF
      cases hq : p y with
      | true =>
        rw [hq] at hcall
        have HC := Aside0.mk hcall
        clear hcall
        go_wp2_with ((refine HC.out.mono ?_); rintro e w' ⟨rfl, hb'⟩; have HB' := Aside0.mk (below_step HB.out hb'); clear hb')
        go_ret
        refine ⟨?_, HB'.out⟩
        have h_ := Lib.idxBy_hit (fun _ y => p y) xs n kk zG hlt (by have := HL.out; omega) (by show p xs[kk]! = true; rw [B.out]; exact hq) A.out
        rw [List.take_of_length_le (by have := HL.out; omega)] at h_
        rw [h_]
        rfl
      | false =>
        rw [hq] at hcall
        have HC := Aside0.mk hcall
        clear hcall
        go_wp2_with ((refine HC.out.mono ?_); rintro e w' ⟨rfl, hb'⟩; have HB' := Aside0.mk (below_step HB.out hb'); clear hb')
        go_roundg (n - (kk + 1))
        case measure => omega
        case rel =>
          refine ⟨kk + 1, by omega, by omega, by go_num, HB', ⟨fun j hj => ?_⟩⟩
          by_cases e : j = kk
          · subst e
            rw [B.out]; exact hq
          · exact A.out j (by omega)
    · have hltz : ¬ (kk : Int) < (n : Int) := by omega
      have : kk = n := by omega
      subst this
      go_wp2
      go_ret
      refine ⟨?_, HB.out⟩
      have h_ := Lib.idxBy_miss (fun _ y => p y) xs kk zG A.out
      rw [List.take_of_length_le (by have := HL.out; omega)] at h_
      rw [h_]
      rfl
theorem delG.below_setCells {B : Nat} {a : World} (b : Nat) (hb : B ≤ b) : ∀ (vs : List Value) (o : Nat) {w : World}, Below B a w → Below B a (w.setCells b o vs)
  | [], _, _, h => h
  | v :: r, o, _, h => delG.below_setCells b hb r (o + 1) (h.setCell (p := ⟨b, o, none⟩) hb v)
theorem delG.setCells_at {e : TypeId} {fr : Nat × Nat} (g : Nat) : ∀ (zs : List Value) (o : Nat) (w : World) (cur : Array Value), w.heap[g]? = some (.cells cur e fr) → ∃ cur', (w.setCells g o zs).heap[g]? = some (.cells cur' e fr) ∧ cur'.size = cur.size ∧ ∀ j, j < o → cur'[j]? = cur[j]?
  | [], o, w, cur, h => ⟨cur, h, rfl, fun _ _ => rfl⟩
  | z :: zs, o, w, cur, h => by
    obtain ⟨cur', h1, h2, h3⟩ := delG.setCells_at (e := e) (fr := fr) g zs (o + 1) (w.setCell ⟨g, o, none⟩ z) (cur.setIfInBounds o z) (by simp [World.setCell, Array.getElem?_modify, h])
    refine ⟨cur', h1, by simpa using h2, fun j hj => ?_⟩
    rw [h3 j (by omega), Array.getElem?_setIfInBounds_ne (by omega)]
theorem delG.clear {d : Kd (S44 × Value × Value)} {e : TypeId} {w : World} {base : Nat} {ok : Nat → Prop} {g n c m : Nat} {xs : List (S44 × Value × Value)} (h : Kd.N d e w base ok (.slice (some ⟨g, 0, none⟩) n c) xs) (hm : m ≤ n) (zs : List Value) :
    Kd.N d e (w.setCells g (m * d.sz) zs) base ok (.slice (some ⟨g, 0, none⟩) m c) (xs.take m) := by
  have hn : n = xs.length := (Kd.N_reads' h).1
  obtain ⟨h0, rows, hl, ⟨hk, inner, ho, hr⟩, hf⟩ := Kd.N_take h (m := m) (by omega)
  have hlen : (xs.take m).length = m := by rw [List.length_take]; omega
  have hsz : (Kd.raw d.sz).sz = d.sz := rfl
  rw [hsz] at ho hr
  rcases ho.2 with ⟨he, _⟩ | ⟨g', cap, cur, he, hbg, hg, hncap, hcap, hcs, htake⟩
  · simp at he
  · injection he with he1 he2 he3
    have hgg : g = g' := by injection he1 with h_; injection h_
    subst hgg
    subst he3
    obtain ⟨cur', h1, h2, h3⟩ := delG.setCells_at g zs (m * d.sz) w cur hg
    have hgl : g < w.heap.size := (Array.getElem?_eq_some_iff.1 hg).1
    refine ⟨h0, rows, hl, ⟨hk, inner, ⟨ho.1, .inr ⟨g, c, cur', by rw [he2], hbg, h1, hncap, hcap, (h2.trans hcs : cur'.size = c * d.sz), ?_⟩⟩, hr⟩, fun j x cc hx hc => Kd.FK_step (hf j x cc hx hc) (fun k hk hlt => ?_)⟩
    · show List.take (rows.length * d.sz) cur'.toList = inner
      rw [← htake]
      apply List.ext_getElem?
      intro j
      have hrl : rows.length * d.sz = m * d.sz := by rw [hl, hlen]
      by_cases hj : j < rows.length * d.sz
      · rw [List.getElem?_take_of_lt hj, List.getElem?_take_of_lt hj, Array.getElem?_toList, Array.getElem?_toList, h3 j (by omega)]
      · rw [List.getElem?_take_eq_none (by omega), List.getElem?_take_eq_none (by omega)]
    · exact World.heap_setCells_other w g _ zs hlt (fun e => hk.2 (by rw [e]; rfl))
theorem delG.zero (w : World) : (zeroValue 44).run Try.prog w = .ok (.agg #[.slice none 0 0, .slice none 0 0]) w := by
  have h : (Try.prog.info? 44).map (fun i => i.zero) = some (some (.agg #[.slice none 0 0, .slice none 0 0])) := by kernel_rfl
  obtain ⟨i, hi, hz⟩ := Option.map_eq_some_iff.1 h
  simp [zeroValue, typeInfo, hi, hz]
theorem delG.run_clear (ty : TypeId) (c' : Nat) {w : World} {base : Nat} {ok : Nat → Prop} {g n c i : Nat} {xs : List (S44 × Value × Value)} (h : Kd.N (gPr bb) 44 w base ok (.slice (some ⟨g, 0, none⟩) n c) xs) (hi : i < n) :
    (Builtin.clear_ #[49] ty #[.slice (some ⟨g, i * 2, none⟩) (n - i) c']).run Try.prog w = .ok (.tuple #[]) (w.setCells g (i * 2) (List.replicate ((n - i) * 2) (.slice none 0 0))) := by
  have hzc : (Builtin.zeroCells (Value.agg #[.slice none 0 0, .slice none 0 0]).cells (n - i)).toList = List.replicate ((n - i) * 2) (.slice none 0 0) := by
    rw [show (Value.agg #[.slice none 0 0, .slice none 0 0]).cells = #[.slice none 0 0, .slice none 0 0] from rfl]
    apply List.ext_getElem
    · simp [Builtin.zeroCells]
    · intro j h1 h2
      simp only [Builtin.zeroCells, Array.toList_map, List.getElem_map, List.getElem_replicate]
      have hq : ∀ q, q < 2 → (#[.slice none 0 0, .slice none 0 0] : Array Value)[q]! = .slice none 0 0 := fun q hq => by
        rcases q with _ | _ | q
        · rfl
        · rfl
        · omega
      exact hq _ (Nat.mod_lt _ (by decide))
  have hcell : ∀ j, j < (n - i) * 2 → (w.cell? ⟨g, i * 2 + j, none⟩).isSome = true ∧ w.frozen? ⟨g, i * 2 + j, none⟩ = false := fun j hj => by
    obtain ⟨A0, m0, c0, A1, m1, c1, e0, e1, _⟩ := delG.at h (i + j / 2) (by omega)
    obtain ⟨g', cap, he, _, _, cells, hb⟩ := Kd.N_form h (by have := (Kd.N_reads' h).1; omega)
    injection he with he1
    injection he1 with he1
    injection he1 with he1
    subst he1
    refine ⟨?_, by simp [World.frozen?, hb]⟩
    rcases Nat.mod_two_eq_zero_or_one j with e | e
    · rw [show i * 2 + j = (i + j / 2) * 2 by omega, e0]; rfl
    · rw [show i * 2 + j = (i + j / 2) * 2 + 1 by omega, e1]; rfl
  have hst := run_storeCells_cells (P := Try.prog) g (i * 2) (List.replicate ((n - i) * 2) (.slice none 0 0)) 0 w (fun j hj => by rw [Nat.add_zero]; exact (hcell j (by simpa using hj)).1) (fun j hj => by rw [Nat.add_zero]; exact (hcell j (by simpa using hj)).2) (by intro v hv'; rw [List.eq_of_mem_replicate hv']; rfl)
  simp only [Nat.add_zero] at hst
  obtain ⟨m, hm⟩ : ∃ m, n - i = m + 1 := ⟨n - i - 1, by omega⟩
  rw [hm] at hzc hst ⊢
  simp [Builtin.clear_, run_underlying Try.underlying49, delG.zero, hzc, hst]
set_option maxHeartbeats 8000000 in
set_option maxRecDepth 1000000 in
theorem delG.delete (p : (S44 × Value × Value) → Bool) (gf : Nat) (lb : Array Value) (eg : ∀ args w, (callFunc gf args).run Try.prog w = .ok (.enter gf args) w) {base : Nat} {ok : Nat → Prop} {g n c : Nat} {xs : List (S44 × Value × Value)} (w : World) (hN : Kd.N (gPr bb) 44 w base ok (.slice (some ⟨g, 0, none⟩) n c) xs) (hbw : base ≤ w.heap.size) (hbig : n ≤ 4611686018427387903)
    (hp : ∀ (W : World) (x : (S44 × Value × Value)) (u0 u1 : Value), x ∈ xs → Below base w W → ((gPr bb)).K W x [u0, u1] → Calls Try.prog gf (#[.agg #[u0, u1]] ++ lb) W fun e w' => e = .returned (.bool (p x)) ∧ Below W.heap.size W w') :
    Calls Try.prog 95 #[.slice (some ⟨g, 0, none⟩) n c, .func (.func gf) #[] lb] w fun e w' => ∃ v, e = .returned v ∧ Kd.N (gPr bb) 44 w' base ok v (xs.filter fun x => !p x) ∧ Below base w w' := by
  have hn : n = xs.length := (Kd.N_reads' hN).1
  have hnc : n ≤ c := (Kd.N_reads' hN).2.1
  have hbg : base ≤ g := Kd.N_base hN g rfl
  have hgl : g < w.heap.size := Kd.N_lt hN g rfl
  have hIF := delG.index p gf lb eg w hN (by omega) (fun W x u0 u1 hx hb hK => hp W x u0 u1 hx (hb.mono hbw) hK)
  obtain ⟨kp, HK⟩ : ∃ kp : Nat → Bool, Aside0 (kp = fun j => !p xs.toArray[j]!) := ⟨_, ⟨rfl⟩⟩
  have hsz : xs.toArray.size = n := by simp [hn]
  have tl : ∀ j, j < n → xs[j]! = xs.toArray[j]! := fun j hj => by rw [getElem!_pos xs j (by omega), getElem!_pos xs.toArray j (by omega)]; simp
  have hfil : (xs.filter fun x => !p x) = Lib.keptUpTo kp xs.toArray xs.toArray.size := by rw [HK.out]; exact (Lib.keptUpTo_filter (fun x => !p x) xs.toArray).symm
  generalize (xs.filter fun x => !p x) = R at hfil ⊢
  have HRR := Aside0.mk hfil
  have HN := Aside0.mk hN
  have HP := Aside0.mk hp
  have HL := Aside0.mk hn
  have HBW := Aside0.mk hbw
  have HBG := Aside0.mk hbg
  have HSZ := Aside0.mk hsz
  have hu := Try.underlying44
  have hu2 := Try.underlying49
  rcases delG.idx_spec (fun _ y => p y) zG xs 0 with ⟨e1, hall⟩ | ⟨k0, hk0, e1, ht, hall⟩
  · have e2 : Lib.idxBy (fun _ y => p y) xs zG = -1 := e1
    rw [e2] at hIF
    have hkeep : ∀ j, j < n → kp j = true := fun j hj => by rw [HK.out]; show (!p xs.toArray[j]!) = true; rw [← tl j hj, hall j (by omega)]; rfl
    have e3 : Lib.keptUpTo kp xs.toArray xs.toArray.size = xs := by rw [Lib.keptUpTo_all kp xs.toArray _ (by rw [hsz]; exact hkeep), Lib.range_map_get]
    have HI := Aside0.mk hIF
    have E3 := Aside0.mk e3
    clear e3
    clear hN hp hIF hall tl e1 e2 hkeep hfil hn hbw hbg hsz
    go_enter Try.func95, Try.ntmps95
    go_wp2_with (go_at_call 80; refine HI.out.mono ?_; rintro e w' ⟨rfl, hb'⟩; have HB' := Aside0.mk hb'; clear hb')
    go_ret
    rw [HRR.out, E3.out]
    exact ⟨_, rfl, Kd.N_below HN.out HB'.out, HB'.out.mono HBW.out⟩
  · have hk0' : k0 < n := by omega
    have e2 : Lib.idxBy (fun _ y => p y) xs zG = (k0 : Int) := by unfold Lib.idxBy; rw [e1]; simp
    rw [e2] at hIF
    have hkeep : ∀ j, j < k0 → kp j = true := fun j hj => by rw [HK.out]; show (!p xs.toArray[j]!) = true; rw [← tl j (by omega), hall j hj]; rfl
    have hdrop : kp k0 = false := by rw [HK.out]; show (!p xs.toArray[k0]!) = false; rw [← tl k0 hk0', show p xs[k0]! = true from ht]; rfl
    have hne1 : ((k0 : Int) == -1) = false := beq_eq_false_iff_ne.2 (by omega)
    have HI := Aside0.mk hIF
    have HT := Aside0.mk tl
    clear hN hp hIF hall ht e1 e2 tl hfil hn hbw hbg hsz
    go_enter Try.func95, Try.ntmps95
    go_wp2_with (go_at_call 80; refine HI.out.mono ?_; rintro e w' ⟨rfl, hb'⟩; have HB' := Aside0.mk hb'; clear hb')
    go_loopg [5, 6, 7] n (fun gg s5 s6 _ wr => ∃ (i j : Nat) (dk : Array (S44 × Value × Value)), s5 = .int .i64 i ∧ s6 = .int .i64 j ∧ j ≤ n ∧ n - j ≤ gg ∧ Aside0 (Kd.N (gPr bb) 44 wr base ok (.slice (some ⟨g, 0, none⟩) n c) dk.toList) ∧ Aside0 (Below base w wr) ∧ Aside0 (Lib.KeptInv kp xs.toArray j i dk))
    case atStart => exact ⟨k0, k0 + 1, xs.toArray, rfl, by go_num, by omega, by omega, ⟨Kd.N_below HN.out HB'.out⟩, ⟨HB'.out.mono HBW.out⟩, ⟨Lib.KeptInv.start hkeep hdrop⟩⟩
    case round =>
      obtain ⟨i, j, dk, rfl, rfl, hjd, hgg, HNr, HB, I2⟩ := hrel
      by_cases hlt : j < n
      · have hltz : (j : Int) < (n : Int) := by omega
        have hin : i < n := by have := I2.out.lt; omega
        have hinz : (i : Int) < (n : Int) := by omega
        obtain ⟨A0, m0, d0, A1, m1, d1, hc0, hc1, hF⟩ := delG.at HNr.out j hlt
        have hrd : rdG dk.toList (j : Int) = xs.toArray[j]! := by
          rw [← I2.out.high j (by have := I2.out.lt; omega)]
          have hjk : j < dk.size := by rw [I2.out.size, HSZ.out]; exact hlt
          unfold rdG
          rw [Int.toNat_natCast, List.getD_eq_getElem?_getD, getElem!_pos dk j hjk, Array.getElem?_toList, Array.getElem?_eq_getElem hjk]
          rfl
        rw [hrd] at hF
        generalize hy : xs.toArray[j]! = y at hF
        have C : Aside0 (xs.toArray[j]! = y) := ⟨hy⟩
        clear hy hrd
        have hmem : y ∈ xs := by rw [← C.out, getElem!_pos xs.toArray j (by rw [HSZ.out]; exact hlt)]; simp
        have HF := Aside0.mk hF
        have hcall : ∀ W, Below wr.heap.size wr W → Calls Try.prog gf (#[.agg #[.slice A0 m0 d0, .slice A1 m1 d1]] ++ lb) W fun e w' => e = .returned (.bool (p y)) ∧ Below W.heap.size W w' := fun W hb => HP.out W y _ _ hmem (HB.out.trans (hb.mono (Nat.le_trans HBW.out HB.out.size))) (Foot.now (Foot.mono (Foot.step HF.out (fun k _ hlt => hb.block k hlt)) (fun _ h => h)))
        clear hF hmem
        cases hq : p y with
        | false =>
          rw [hq] at hcall
          have HC := Aside0.mk hcall
          clear hcall
          go_wp2_with (first | ((with_reducible refine gate_dst (N := 7) rfl ?_); refine box_event ?hg (N := 7) ?hd (cs := #[.slice none 0 0, .slice none 0 0]) (t := 44) ?hr ?_; (case hd => rfl); (case hg => rfl); (case hr => first | (go_simp; done) | (go_simp; rfl)); intro gb hgb w1 hbox hb; have HB1 := Aside0.mk hb; have GE := Aside0.mk (Nat.le_of_eq hgb.symm); have GL := Aside0.mk (blk_lt hbox); have hz0 : w1.cell? ⟨gb, 0, none⟩ = some (.slice none 0 0) := (blk_cell hbox 0).trans rfl; have hz1 : w1.cell? ⟨gb, 1, none⟩ = some (.slice none 0 0) := (blk_cell hbox 1).trans rfl; have hfz0 := blk_frozen hbox 0; have hfz1 := blk_frozen hbox 1; clear hb hbox hgb) | ((refine (HC.out _ ?hbW).mono ?_); (case hbW => repeat (first | exact HB1.out | refine below_set ?_ GE.out)); rintro e w9 ⟨rfl, hb9⟩; have HBr := Aside0.mk (below_step (by repeat (first | exact HB1.out | refine below_set ?_ GE.out)) hb9); have hz90 : w9.cell? ⟨gb, 0, none⟩ = some (.slice A0 m0 d0) := (hb9.cell (p := ⟨gb, 0, none⟩) (by simpa using GL.out)).trans ((World.cell?_setCell_other _ _ _ _ (by simp)).trans (World.cell?_setCell_same' _ _ _ (by rw [hz0]; rfl))); have hz91 : w9.cell? ⟨gb, 1, none⟩ = some (.slice A1 m1 d1) := (hb9.cell (p := ⟨gb, 1, none⟩) (by simpa using GL.out)).trans (World.cell?_setCell_same' _ _ _ (by rw [World.cell?_setCell_other _ _ _ _ (by simp), hz1]; rfl)); clear hb9; have HN9 := Aside0.mk (Kd.N_below HNr.out HBr.out); have HB9 := Aside0.mk (HB.out.trans (HBr.out.mono (Nat.le_trans HBW.out HB.out.size)))) | ((with_reducible refine gate_store (t := 44) (p := 33) rfl ?_); obtain ⟨ce, hce, hMe, hcc⟩ := Kd.N_get HN9.out zG (i : Int) (by omega) (by have := I2.out.lt; omega); refine Kd.N_store (gPr bb) base ?hn ?hgd 44 (.tmp 33) (.tmp 32) ?ho 44 (o' := i * 2) (i : Int) 0 dk.toList y (.agg #[.slice A0 m0 d0, .slice A1 m1 d1]) [.slice A0 m0 d0, .slice A1 m1 d1] ce ok (fun k_ => ok k_ ∧ k_ ≠ g) ?ha ?hof ?hx ?hu ?ht ?h1 HN9.out (by omega) (by have := I2.out.lt; omega) hce ?hcc (Nat.le_refl 2) ?hM (fun k_ h_ => h_) HB9.out ?_; (case hn => rfl); (case hgd => rfl); (case ho => rfl); (case ha => rfl); (case hof => rfl); (case hx => rfl); (case hu => rfl); (case ht => kernel_rfl); (case h1 => intro q hq_; simp at hq_; rcases hq_ with rfl | rfl <;> rfl); (case hcc => intro j_ u_ h_; have h2_ := hcc j_ u_ h_; rw [delG.add0] at h2_; exact h2_); (case hM => exact (show Kd.FK (gPr bb) w9 (fun k_ => ok k_ ∧ k_ ≠ g) y ([Value.slice A0 m0 d0, .slice A1 m1 d1] ++ ce.drop 2) from by rw [List.drop_eq_nil_of_le (by rw [hce]; exact Nat.le_refl 2), List.append_nil]; exact Kd.FK_step HF.out (fun k_ h_ hl_ => HBr.out.block k_ hl_))); intro w10 hN10 hb10 hg10; have HN10 := Aside0.mk hN10; have HB10 := Aside0.mk hb10; clear hN10 hb10 hg10 hce hMe hcc))
          go_roundg (n - (j + 1))
          case measure => omega
          case rel =>
            refine ⟨i + 1, j + 1, dk.setIfInBounds i y, by go_num, by go_num, by omega, Nat.le_refl _, ⟨?_⟩, HB10, ⟨?_⟩⟩
            · have h_ := HN10.out
              rw [Int.toNat_natCast] at h_
              rw [Array.toList_setIfInBounds]
              exact h_
            · have h_ := I2.out.keep (by rw [HSZ.out]; exact hlt) (by rw [HK.out]; show (!p xs.toArray[j]!) = true; rw [C.out, hq]; rfl)
              rwa [C.out] at h_
        | true =>
          rw [hq] at hcall
          have HC := Aside0.mk hcall
          clear hcall
          go_wp2_with (first | ((with_reducible refine gate_dst (N := 7) rfl ?_); refine box_event ?hg (N := 7) ?hd (cs := #[.slice none 0 0, .slice none 0 0]) (t := 44) ?hr ?_; (case hd => rfl); (case hg => rfl); (case hr => first | (go_simp; done) | (go_simp; rfl)); intro gb hgb w1 hbox hb; have HB1 := Aside0.mk hb; have GE := Aside0.mk (Nat.le_of_eq hgb.symm); have GL := Aside0.mk (blk_lt hbox); have hz0 : w1.cell? ⟨gb, 0, none⟩ = some (.slice none 0 0) := (blk_cell hbox 0).trans rfl; have hz1 : w1.cell? ⟨gb, 1, none⟩ = some (.slice none 0 0) := (blk_cell hbox 1).trans rfl; have hfz0 := blk_frozen hbox 0; have hfz1 := blk_frozen hbox 1; clear hb hbox hgb) | ((refine (HC.out _ ?hbW).mono ?_); (case hbW => repeat (first | exact HB1.out | refine below_set ?_ GE.out)); rintro e w9 ⟨rfl, hb9⟩; have HBr := Aside0.mk (below_step (by repeat (first | exact HB1.out | refine below_set ?_ GE.out)) hb9); have hz90 : w9.cell? ⟨gb, 0, none⟩ = some (.slice A0 m0 d0) := (hb9.cell (p := ⟨gb, 0, none⟩) (by simpa using GL.out)).trans ((World.cell?_setCell_other _ _ _ _ (by simp)).trans (World.cell?_setCell_same' _ _ _ (by rw [hz0]; rfl))); have hz91 : w9.cell? ⟨gb, 1, none⟩ = some (.slice A1 m1 d1) := (hb9.cell (p := ⟨gb, 1, none⟩) (by simpa using GL.out)).trans (World.cell?_setCell_same' _ _ _ (by rw [World.cell?_setCell_other _ _ _ _ (by simp), hz1]; rfl)); clear hb9; have HN9 := Aside0.mk (Kd.N_below HNr.out HBr.out); have HB9 := Aside0.mk (HB.out.trans (HBr.out.mono (Nat.le_trans HBW.out HB.out.size)))))
          go_roundg (n - (j + 1))
          case measure => omega
          case rel => exact ⟨i, j + 1, dk, rfl, by go_num, by omega, Nat.le_refl _, HN9, HB9, ⟨I2.out.skip (by rw [HK.out]; show (!p xs.toArray[j]!) = false; rw [C.out, hq]; rfl)⟩⟩
      · obtain rfl : j = n := by omega
        have hltz : ¬ (j : Int) < (j : Int) := by omega
        have hi : i < j := I2.out.lt
        have hcl := fun ty => delG.run_clear ty (c - i) HNr.out hi
        have HZ := Aside0.mk (fun zs => delG.clear HNr.out (Nat.le_of_lt hi) zs)
        go_wp2
        go_ret
        have hR : dk.toList.take i = R := by
          rw [HRR.out, HSZ.out]
          apply List.ext_getElem?
          intro q
          by_cases hq : q < i
          · rw [List.getElem?_take_of_lt hq, I2.out.low q hq]
            have hqd : q < dk.size := by rw [I2.out.size, HSZ.out]; omega
            rw [Array.getElem?_toList, Array.getElem?_eq_getElem hqd, getElem!_pos dk q hqd]
          · rw [List.getElem?_take_eq_none (by omega), List.getElem?_eq_none (by rw [I2.out.len]; omega)]
        refine ⟨_, rfl, ?_, ?_⟩
        · have h_ := HZ.out (List.replicate ((j - i) * 2) (.slice none 0 0))
          rw [hR] at h_
          exact h_
        · exact delG.below_setCells g HBG.out _ _ HB.out
end

end
theorem flatG_filter (q : S44 × Value × Value → Bool) : ∀ g : List (S44 × Value × Value), List.Sublist (flatG (g.filter q)) (flatG g)
  | [] => List.Sublist.refl _
  | x :: g => by
    rw [List.filter_cons]
    have h := flatG_filter q g
    split
    · exact (List.Sublist.append (List.Sublist.refl [x.2.1, x.2.2]) h)
    · exact List.Sublist.trans h (List.sublist_append_right [x.2.1, x.2.2] (flatG g))
set_option maxHeartbeats 8000000 in
theorem impl_meanders.calls (k : Nat) (a0 : Int) (r : List (S44)) (w : World) (h : impl_meanders.f k a0 = some r) :
    Calls Try.prog 71 #[.int .i64 a0] w fun e w' => ∃ (v0_ : Value) (g_ : List (S44 × Value × Value)), e = .returned (v0_) ∧ g_.map Prod.fst = r ∧ ApartV (flatG g_) ∧ Kd.N (gPr w.heap.size) 44 w' w.heap.size (fun k_ => (w.heap.size ≤ k_)) v0_ g_ ∧ Below w.heap.size w w' := by
  have eg := fun args w => enters_ (P := Try.prog) Try.func96 (by kernel_rfl) rfl args w
  have HE := Aside0.mk eg
  clear eg
  obtain ⟨xs, h1, h⟩ := Option.bind_eq_some_iff.1 h
  have HS := Aside0.mk (impl_pairs.calls k a0 xs w h1)
  clear h1
  by_cases hx : 0 < xs.length ∧ xs.length < 4611686018427387904
  · rw [if_pos hx] at h
    obtain ⟨p, hp, rfl⟩ := filtM_some h
    have HX := Aside0.mk hx
    have HP := Aside0.mk hp
    clear h hx hp
    go_enter Try.func71, Try.ntmps71
    go_wp2_with (first | (go_at_call 68; refine HS.out.mono ?_; rintro e w1 ⟨v1, gg, rfl, hgm, hga, ho, hb⟩; have HGM := Aside0.mk hgm; have HGA := Aside0.mk hga; have HN := Aside0.mk ho; have HB := Aside0.mk hb; have HLN := Aside0.mk (show gg.length = xs.length by rw [← hgm, List.length_map]); clear ho hb hgm hga; obtain ⟨g1, cap1, e1, _⟩ := Kd.N_form HN.out (by have := HX.out.1; have := HLN.out; omega); subst e1) | (go_at_call 95; refine (delG.delete (fun y => !p y.1) 96 #[] HE.out w1 HN.out HB.out.size (by have := HX.out.2; have := HLN.out; omega) ?hp).mono ?_; (case hp => intro W x u0 u1 hx_ hbW hK; obtain ⟨A0, c0, A1, c1, e_, l0, r0, l1, r1⟩ := k44_open (gPr_k _ _ _ _ hK); (injection e_ with e1_ e2_); (injection e2_ with e2_); rw [e1_, e2_]; exact impl_meanders.clo k A0 c0 x.1.f0 A1 c1 x.1.f1 (p x.1) W r0 l0 r1 l1 (HP.out x.1 (by rw [← HGM.out]; exact List.mem_map_of_mem hx_))); rintro e w2 ⟨v2, rfl, ho, hb⟩; have HO := Aside0.mk ho; have HB2 := Aside0.mk (HB.out.trans hb); clear ho hb))
    go_ret
    have h_ := HO.out
    rw [show (gg.filter fun y => !(!p y.1)) = gg.filter (fun y => p y.1) by congr 1; funext y; simp] at h_
    refine ⟨_, gg.filter (fun y => p y.1), rfl, ?_, ?_, h_, HB2.out⟩
    · rw [← HGM.out, List.filter_map]; rfl
    · exact HGA.out.sublist (flatG_filter _ gg)
  · rw [if_neg hx] at h
    cases h

end Go.Proofs.Ytpepnlcelllhkaa.QFnExactMeandersOf
