-- Written by wip/myprint.py (a program of mine round the kit's printer). Lean checks it.
import Derived.Test.YtpepnlcelllhkaaQFnExactClosingWithx0
import Derived.Test.YtpepnlcelllhkaaQFnExactClosingWithx6
import Derived.Test.YtpepnlcelllhkaaQFnExactClosingWithx7
namespace Go.Proofs.Ytpepnlcelllhkaa.QFnExactClosingWith
open Go.RowKit Go.Proofs.YtpepnlcelllhkaaW.PrintWords Go.Proofs.YtpepnlcelllhkaaW.PrintLast Go.Proofs.YtpepnlcelllhkaaW.PrintMore
attribute [local go_sem] max2_int min2_int max_two min_two max_three min_three max_four min_four   -- for this text's walks alone
set_option linter.unusedVariables false
set_option linter.unusedSimpArgs false

/-! ### impl_Meander_curves: function 93 -/
mutual
def impl_Meander_curves.l0 : Nat → List Int → Int → Int → Int → List Int → List Int → Option (List Int × Int)
  | 0, _, _, _, _, _, _ => none
  | k + 1, x4, x5, x15, x16, x303000, x303001 => if x16 < x15 then (if 0 ≤ x16 then (if x16 < (x4.length : Int) then (if (rd x4 x16) ≥ 0 then (impl_Meander_curves.l0 k x4 x5 x15 (wrap64 (x16 + 1)) x303000 x303001) else ((impl_Meander_way.f k x303000 x303001 x16).bind fun t310 => (impl_Meander_curves.l1 k x4 x5 x15 x16 t310 (t310.length : Int) 0 x303000 x303001))) else (none)) else (none)) else (some (x4, x5))
def impl_Meander_curves.l1 : Nat → List Int → Int → Int → Int → List Int → Int → Int → List Int → List Int → Option (List Int × Int)
  | 0, _, _, _, _, _, _, _, _, _ => none
  | k + 1, x4, x5, x15, x16, x26, x27, x28, x303000, x303001 => if x28 < x27 then (if 0 ≤ x28 then (if x28 < (x26.length : Int) then (if 0 ≤ (rd x26 x28) then (if (rd x26 x28) < (x4.length : Int) then (impl_Meander_curves.l1 k (x4.set ((rd x26 x28) : Int).toNat x5) x5 x15 x16 x26 x27 (wrap64 (x28 + 1)) x303000 x303001) else (none)) else (none)) else (none)) else (none)) else (impl_Meander_curves.l0 k x4 (wrap64 (x5 + 1)) x15 (wrap64 (x16 + 1)) x303000 x303001)
end
def impl_Meander_curves.f (k : Nat) (l0_0 : List Int) (l0_1 : List Int) : Option (List Int × Int) := (slices_Repeat_int_int.f (([(-1)] : List Int)) (l0_0.length : Int)).bind fun t306 => (impl_Meander_curves.l0 k t306 0 (t306.length : Int) 0 l0_0 l0_1)
theorem impl_Meander_curves.mono_l : ∀ k, (∀ y0 y1 y2 y3 y4 y5, LeO (impl_Meander_curves.l0 k y0 y1 y2 y3 y4 y5) (impl_Meander_curves.l0 (k + 1) y0 y1 y2 y3 y4 y5)) ∧ (∀ y0 y1 y2 y3 y4 y5 y6 y7 y8, LeO (impl_Meander_curves.l1 k y0 y1 y2 y3 y4 y5 y6 y7 y8) (impl_Meander_curves.l1 (k + 1) y0 y1 y2 y3 y4 y5 y6 y7 y8))
  | 0 => ⟨fun _ _ _ _ _ _ r h => by simp [impl_Meander_curves.l0] at h, fun _ _ _ _ _ _ _ _ _ r h => by simp [impl_Meander_curves.l1] at h⟩
  | k + 1 => by
    obtain ⟨ih0, ih1⟩ := impl_Meander_curves.mono_l k
    refine ⟨?_, ?_⟩
    · intro y0 y1 y2 y3 y4 y5
      unfold impl_Meander_curves.l0
      repeat' first
      | (with_reducible exact ih0 _ _ _ _ _ _)
      | (with_reducible exact ih1 _ _ _ _ _ _ _ _ _)
      | (with_reducible exact impl_Meander_way.mono _ _ _ _)
      | (with_reducible exact LeO.refl _)
      | (with_reducible exact LeO.none _)
      | (with_reducible refine LeO.ite ?_ ?_)
      | (with_reducible refine LeO.bind ?_ (fun _ => ?_))
      | exact ih0 _ _ _ _ _ _
      | exact ih1 _ _ _ _ _ _ _ _ _
      | exact impl_Meander_way.mono _ _ _ _
      | exact LeO.none _
      | refine LeO.ite ?_ ?_
      | refine LeO.bind ?_ (fun _ => ?_)
    · intro y0 y1 y2 y3 y4 y5 y6 y7 y8
      unfold impl_Meander_curves.l1
      repeat' first
      | (with_reducible exact ih0 _ _ _ _ _ _)
      | (with_reducible exact ih1 _ _ _ _ _ _ _ _ _)
      | (with_reducible exact impl_Meander_way.mono _ _ _ _)
      | (with_reducible exact LeO.refl _)
      | (with_reducible exact LeO.none _)
      | (with_reducible refine LeO.ite ?_ ?_)
      | (with_reducible refine LeO.bind ?_ (fun _ => ?_))
      | exact ih0 _ _ _ _ _ _
      | exact ih1 _ _ _ _ _ _ _ _ _
      | exact impl_Meander_way.mono _ _ _ _
      | exact LeO.none _
      | refine LeO.ite ?_ ?_
      | refine LeO.bind ?_ (fun _ => ?_)
theorem impl_Meander_curves.mono : ∀ a0 a1 k, LeO (impl_Meander_curves.f k a0 a1) (impl_Meander_curves.f (k + 1) a0 a1) := by
  intro a0 a1 k
  obtain ⟨ih0, ih1⟩ := impl_Meander_curves.mono_l k
  unfold impl_Meander_curves.f
  repeat' first
      | (with_reducible exact ih0 _ _ _ _ _ _)
      | (with_reducible exact ih1 _ _ _ _ _ _ _ _ _)
      | (with_reducible exact impl_Meander_way.mono _ _ _ _)
      | (with_reducible exact LeO.refl _)
      | (with_reducible exact LeO.none _)
      | (with_reducible refine LeO.ite ?_ ?_)
      | (with_reducible refine LeO.bind ?_ (fun _ => ?_))
      | exact ih0 _ _ _ _ _ _
      | exact ih1 _ _ _ _ _ _ _ _ _
      | exact impl_Meander_way.mono _ _ _ _
      | exact LeO.none _
      | refine LeO.ite ?_ ?_
      | refine LeO.bind ?_ (fun _ => ?_)
set_option maxHeartbeats 8000000 in
set_option maxRecDepth 100000 in
theorem impl_Meander_curves.calls (k : Nat) (A0_0 : Option Addr) (c0_0 : Nat) (l0_0 : List Int) (A0_1 : Option Addr) (c0_1 : Nat) (l0_1 : List Int) (r1 : List Int) (r2 : Int) (w : World) (hr0_0 : Kd.C (Kd.int .i64) w A0_0 l0_0.length l0_0) (hc0_0 : l0_0.length ≤ c0_0) (hr0_1 : Kd.C (Kd.int .i64) w A0_1 l0_1.length l0_1) (hc0_1 : l0_1.length ≤ c0_1) (h : impl_Meander_curves.f k l0_0 l0_1 = some (r1, r2)) :
    Calls Try.prog 93 #[.agg #[.slice A0_0 l0_0.length c0_0, .slice A0_1 l0_1.length c0_1]] w fun e w' => ∃ v0_ : Value, e = .returned (.tuple #[v0_, .int .i64 r2]) ∧ Kd.R (Kd.int .i64) 3 w' w.heap.size (fun _ => True) v0_ r1 ∧ Below w.heap.size w w' := by
  have hu44 := Try.underlying44
  have HR0_0 := Aside0.mk hr0_0
  have HC0_0 := Aside0.mk hc0_0
  clear hr0_0 hc0_0
  have HR0_1 := Aside0.mk hr0_1
  have HC0_1 := Aside0.mk hc0_1
  clear hr0_1 hc0_1
  have HB := Aside0.mk (Below.refl w.heap.size w)
  have H : ((slices_Repeat_int_int.f (([(-1)] : List Int)) (l0_0.length : Int)).bind fun t306 => (impl_Meander_curves.l0 k t306 0 (t306.length : Int) 0 l0_0 l0_1)) = some (r1, r2) := h
  clear h
  obtain ⟨y303, hy303⟩ : ∃ y_ : List Int, y_ = (([(-1)] : List Int)) := ⟨_, rfl⟩
  replace H : ((slices_Repeat_int_int.f y303 (l0_0.length : Int)).bind fun t306 => (impl_Meander_curves.l0 k t306 0 (t306.length : Int) 0 l0_0 l0_1)) = some (r1, r2) := by first | (rw [hy303]; with_reducible exact H) | (have H2_ := (Option.bind_some _ _).symm.trans H; rw [hy303]; with_reducible exact H2_) | (have H2_ := (Option.bind_some _ _).symm.trans H; with_reducible exact H2_) | with_reducible exact H | (rw [hy303]; exact H) | exact H
  have Ny303 := Aside0.mk hy303
  clear hy303
  replace H := Option.bind_eq_some_iff.mp H
  obtain ⟨t306, A20, H⟩ := H
  replace H : (impl_Meander_curves.l0 k t306 0 (t306.length : Int) 0 l0_0 l0_1) = some (r1, r2) := H
  have A2 := Aside0.mk A20
  clear A20
  have H' := Aside0.mk H
  clear H
  go_enter Try.func93, Try.ntmps93
  go_wp2_with (first | ((with_reducible refine gate_dst (N := 1) rfl ?_); refine box_event ?hg (N := 1) ?hd (cs := #[.slice A0_0 l0_0.length c0_0, .slice A0_1 l0_1.length c0_1]) (t := 44) ?hr ?_; (case hd => rfl); (case hg => rfl); (case hr => first | (go_simp; done) | (go_simp; rfl)); intro gb302 hg w3 hbox hb; have n0_ := Aside0.mk (below_step (by repeat (first | (with_reducible first | exact HB.out | apply below_alloc | apply pw_below_drewN | apply below_drew1) | exact HB.out)) hb); have n1_ := Aside0.mk (hbox); have n2_ := Aside0.mk ((by rw [hg]; exact (below_size (by repeat (first | (with_reducible first | exact HB.out | apply below_alloc | apply pw_below_drewN | apply below_drew1) | exact HB.out))) : w.heap.size ≤ gb302)); have n3_ := Aside0.mk ((by rw [hg]; exact (below_size (by repeat (first | (with_reducible first | exact HB.out | apply below_alloc | apply pw_below_drewN | apply below_drew1) | exact HB.out))) : w.heap.size ≤ gb302)); clear HB; have HB := n0_; have BK302 := n1_; have GW302 := n2_; have GE302 := n3_; clear n0_ n1_ n2_ n3_; clear hb hbox hg) | ((with_reducible refine gate_dst (N := 9) rfl ?_); refine Kd.R_lit (Kd.int .i64) _ 3 ?hg (N := 9) ?hd (xs := ([(-1)] : List Int)) (inner := [.int .i64 (-1)]) (ok := fun _ => True) (okp := fun _ => True) ?hr ?hp (fun _ hk => hk) trivial (Below.refl _ _) (Nat.le_refl _) (by simp) ?_; (case hd => rfl); (case hg => rfl); (case hr => first | (go_simp; done) | (go_simp; rfl)); (case hp => exact (Reps.one (show Kd.M (Kd.int .i64) _ _ _ (-1) [.int .i64 (-1)] from rfl) (Reps.none _ _))); intro v304 w4 ho5 hb hg_ hnew_; clear hg_ hnew_; (first | rw [← Ny303.out] at ho5 | (simp only [Int.reduceToNat] at ho5; rw [← Ny303.out] at ho5)); have n0_ := Aside0.mk (Kd.R_lower ho5 (below_size (by repeat (first | (with_reducible first | exact HB.out | apply below_alloc | apply pw_below_drewN | apply below_drew1 | refine below_set ?_ GE302.out) | exact HB.out)))); have n1_ := Aside0.mk (blk_below (g := gb302) (o := .cells #[.slice A0_0 l0_0.length c0_0, .slice A0_1 l0_1.length c0_1] 44 (0, 0)) (by (with_reducible repeat (first | refine blk_drewN ?_ _ | refine blk_drew ?_ | refine blk_alloc ?_ _)); exact BK302.out) hb); have n2_ := Aside0.mk (below_step (by repeat (first | (with_reducible first | exact HB.out | apply below_alloc | apply pw_below_drewN | apply below_drew1 | refine below_set ?_ GE302.out) | exact HB.out)) hb); clear BK302; clear HB; have HO305 := n0_; have BK302 := n1_; have HB := n2_; clear n0_ n1_ n2_; clear hb ho5; have hcz6_0 : w4.cell? ⟨gb302, 0, none⟩ = some (.slice A0_0 l0_0.length c0_0) := (blk_cell BK302.out 0).trans rfl; have hcz6_1 : w4.cell? ⟨gb302, 1, none⟩ = some (.slice A0_1 l0_1.length c0_1) := (blk_cell BK302.out 1).trans rfl; have hfz6_0 := blk_frozen BK302.out 0; have hfz6_1 := blk_frozen BK302.out 1; obtain ⟨Ao7, co7, eo7⟩ := Kd.R_slice HO305.out; subst eo7) | ((with_reducible refine gate_callee (f := 103) rfl ?_); refine goesL_ (some 13) rfl rfl Try.func103 (by kernel_rfl) rfl #[.slice Ao7 y303.length co7, .int .i64 (l0_0.length : Int)] rfl (by (try simp only [List.map_toArray, List.map_cons, List.map_nil]); first | done | rfl | (simp only [List.length_drop, List.length_take]; rfl)) ?_; (with_reducible refine (slices_Repeat_int_int.calls _ _ y303 (l0_0.length : Int) t306 _ ?side1 ?side2 A2.out).mono ?_); (case side1 => repeat (first | exact (Kd.R_reads' HO305.out).2.2 | (with_reducible refine Kd.C_alloc ?_ _) | (with_reducible refine Kd.C_drewN ?_ _) | (with_reducible refine Kd.C_drew ?_))); (case side2 => exact (Kd.R_reads' HO305.out).2.1); rintro e w8 ⟨v307, rfl, ho0, hb⟩; refine ⟨_, rfl, ?_⟩; have n0_ := Aside0.mk (Kd.R_elder' (by (with_reducible repeat (first | apply Kd.R_alloc | apply Kd.R_drewN | apply Kd.R_drew)); exact HO305.out) (Kd.R_base ho0) hb); have n1_ := Aside0.mk (Kd.R_lower (Kd.R_new' ho0 (Kd.R_lt (by (with_reducible repeat (first | apply Kd.R_alloc | apply Kd.R_drewN | apply Kd.R_drew)); exact HO305.out))) (below_size (by repeat (first | (with_reducible first | exact HB.out | apply below_alloc | apply pw_below_drewN | apply below_drew1 | refine below_set ?_ GE302.out) | exact HB.out)))); have n2_ := Aside0.mk (blk_below (g := gb302) (o := .cells #[.slice A0_0 l0_0.length c0_0, .slice A0_1 l0_1.length c0_1] 44 (0, 0)) (by (with_reducible repeat (first | refine blk_drewN ?_ _ | refine blk_drew ?_ | refine blk_alloc ?_ _)); exact BK302.out) hb); have n3_ := Aside0.mk (below_step (by repeat (first | (with_reducible first | exact HB.out | apply below_alloc | apply pw_below_drewN | apply below_drew1 | refine below_set ?_ GE302.out) | exact HB.out)) hb); clear HO305; clear BK302; clear HB; have HO305 := n0_; have HO308 := n1_; have BK302 := n2_; have HB := n3_; clear n0_ n1_ n2_ n3_; (try clear hb); (try clear hb2); (try clear hk); (try clear hi); (try clear ho0); obtain ⟨Ao9, co9, eo9⟩ := Kd.R_slice HO308.out; subst eo9))
  go_loopg [5, 16] k (fun kq v5 v16 w' => ∃ (x4_1 : List Int) (x5_1 : Int) (x16_1 : Int), v5 = .int .i64 x5_1 ∧ v16 = .int .i64 x16_1 ∧ Aside0 (impl_Meander_curves.l0 kq x4_1 x5_1 (t306.length : Int) x16_1 l0_0 l0_1 = some (r1, r2)) ∧ Aside0 (kq ≤ k) ∧ Aside0 (Kd.R (Kd.int .i64) 3 w' w.heap.size (fun _ => True) (.slice Ao9 t306.length co9) x4_1) ∧ Aside0 (w'.heap[gb302]? = some (.cells #[(.slice A0_0 l0_0.length c0_0), (.slice A0_1 l0_1.length c0_1)] 44 (0, 0))) ∧ Aside0 (Below w.heap.size w w'))
  case atStart => exact ⟨(t306), (0), (0), (by first | rfl | (simp; done) | (simp [*]; done)), (by first | rfl | (simp; done) | (simp [*]; done)), H', ⟨Nat.le_refl _⟩, ⟨by (with_reducible repeat (first | apply Kd.R_alloc | apply Kd.R_drewN | apply Kd.R_drew)); exact Kd.R_mono HO308.out (fun _ hk => trivial)⟩, ⟨by (with_reducible repeat (first | refine blk_drewN ?_ _ | refine blk_drew ?_ | refine blk_alloc ?_ _)); exact BK302.out⟩, ⟨by repeat (first | (with_reducible first | exact HB.out | apply below_alloc | apply pw_below_drewN | apply below_drew1 | refine below_set ?_ GE302.out) | exact HB.out)⟩⟩
  case round =>
    clear H'
    try clear c1
    try clear p2
    try clear c9
    try clear hcz6_0
    try clear hcz6_1
    try clear hfz6_0
    try clear hfz6_1
    obtain ⟨x4_1, x5_1, x16_1, rfl, rfl, HA, HK1, HO_4, BK302, HB⟩ := hrel
    have hl4_1 := (Kd.R_reads' HO_4.out).1
    rw [hl4_1] at HO_4
    (try simp only [hl4_1])
    (try simp only [hl4_1] at BK302)
    cases gk with
    | zero => exact absurd HA.out (by simp [impl_Meander_curves.l0])
    | succ k1 =>
      have H := HA.out
      clear HA
      simp only [impl_Meander_curves.l0] at H
      by_cases c10 : x16_1 < (t306.length : Int)
      · rw [if_pos c10] at H
        have c10b0 : decide (x16_1 < (t306.length : Int)) = true := decide_eq_true c10
        (try simp only [hl4_1] at c10b0)
        clear c10
        by_cases c11 : 0 ≤ x16_1
        · rw [if_pos c11] at H
          have c11b0 : decide (0 ≤ x16_1) = true := decide_eq_true c11
          clear c11
          by_cases c12 : x16_1 < (x4_1.length : Int)
          · rw [if_pos c12] at H
            have c12b0 : decide (x16_1 < (x4_1.length : Int)) = true := decide_eq_true c12
            (try simp only [hl4_1] at c12b0)
            clear c12
            by_cases c13 : (rd x4_1 x16_1) ≥ 0
            · rw [if_pos c13] at H
              have c13b0 : decide (0 ≤ (rd x4_1 x16_1)) = true := decide_eq_true c13
              clear c13
              have H' := Aside0.mk H
              clear H
              have p309 : 0 ≤ (x16_1 : Int) := of_decide_eq_true (by first | (with_reducible assumption) | assumption)
              have q309 : x16_1 < (x4_1.length : Int) := of_decide_eq_true (by first | (with_reducible assumption) | assumption)
              obtain ⟨ad309, e309, hx309_0⟩ := Kd.at_int (Kd.R_reads' HO_4.out).2.2 x16_1 p309 q309
              cases e309
              replace p309 := eq_true p309
              replace q309 := eq_true q309
              go_wp2
              (try simp only [← hl4_1])
              go_roundg k1
              case measure => have := HK1.out; omega
              case rel => exact ⟨(x4_1), (x5_1), (wrap64 (x16_1 + 1)), (by first | rfl | (simp; done) | (simp [*]; done)), (by first | rfl | (simp; done) | (simp [*]; done)), H', ⟨by have := HK1.out; omega⟩, ⟨by (try simp only [hl4_1]); (with_reducible repeat (first | apply Kd.R_alloc | apply Kd.R_drewN | apply Kd.R_drew)); exact HO_4.out⟩, ⟨by (try simp only [hl4_1]); (with_reducible repeat (first | refine blk_drewN ?_ _ | refine blk_drew ?_ | refine blk_alloc ?_ _)); exact BK302.out⟩, ⟨by repeat (first | (with_reducible first | exact HB.out | apply below_alloc | apply pw_below_drewN | apply below_drew1 | refine below_set ?_ GE302.out) | exact HB.out)⟩⟩
            · rw [if_neg c13] at H
              have c13b0 : decide (0 ≤ (rd x4_1 x16_1)) = false := decide_eq_false c13
              clear c13
              replace H := Option.bind_eq_some_iff.mp H
              obtain ⟨t310, A140, H⟩ := H
              replace H : (impl_Meander_curves.l1 k1 x4_1 x5_1 (t306.length : Int) x16_1 t310 (t310.length : Int) 0 l0_0 l0_1) = some (r1, r2) := H
              have A14 := Aside0.mk A140
              clear A140
              have H' := Aside0.mk H
              clear H
              have p309 : 0 ≤ (x16_1 : Int) := of_decide_eq_true (by first | (with_reducible assumption) | assumption)
              have q309 : x16_1 < (x4_1.length : Int) := of_decide_eq_true (by first | (with_reducible assumption) | assumption)
              obtain ⟨ad309, e309, hx309_0⟩ := Kd.at_int (Kd.R_reads' HO_4.out).2.2 x16_1 p309 q309
              cases e309
              replace p309 := eq_true p309
              replace q309 := eq_true q309
              have hcz15_0 : wr.cell? ⟨gb302, 0, none⟩ = some (.slice A0_0 l0_0.length c0_0) := (blk_cell BK302.out 0).trans rfl
              have hcz15_1 : wr.cell? ⟨gb302, 1, none⟩ = some (.slice A0_1 l0_1.length c0_1) := (blk_cell BK302.out 1).trans rfl
              have hfz15_0 := blk_frozen BK302.out 0
              have hfz15_1 := blk_frozen BK302.out 1
              go_wp2_with (first | ((with_reducible refine gate_callee (f := 104) rfl ?_); refine goesL_ (some 26) rfl rfl Try.func104 (by kernel_rfl) rfl #[.agg #[.slice A0_0 l0_0.length c0_0, .slice A0_1 l0_1.length c0_1], .int .i64 x16_1] rfl (by (try simp only [List.map_toArray, List.map_cons, List.map_nil]); first | done | rfl | (simp only [List.length_drop, List.length_take]; rfl)) ?_; (with_reducible refine (impl_Meander_way.calls k1 _ _ l0_0 _ _ l0_1 x16_1 t310 _ ?side1 ?side2 ?side3 ?side4 A14.out).mono ?_); (case side1 => repeat (first | exact (Kd.C_below HR0_0.out HB.out) | (with_reducible refine Kd.C_alloc ?_ _) | (with_reducible refine Kd.C_drewN ?_ _) | (with_reducible refine Kd.C_drew ?_))); (case side2 => exact HC0_0.out); (case side3 => repeat (first | exact (Kd.C_below HR0_1.out HB.out) | (with_reducible refine Kd.C_alloc ?_ _) | (with_reducible refine Kd.C_drewN ?_ _) | (with_reducible refine Kd.C_drew ?_))); (case side4 => exact HC0_1.out); rintro e w16 ⟨v311, rfl, ho0, hb⟩; refine ⟨_, rfl, ?_⟩; have n0_ := Aside0.mk (Kd.R_elder' (by (with_reducible repeat (first | apply Kd.R_alloc | apply Kd.R_drewN | apply Kd.R_drew)); exact HO_4.out) (Kd.R_base ho0) hb); have n1_ := Aside0.mk (Kd.R_lower (Kd.R_new' ho0 (Kd.R_lt (by (with_reducible repeat (first | apply Kd.R_alloc | apply Kd.R_drewN | apply Kd.R_drew)); exact HO_4.out))) (below_size (by repeat (first | (with_reducible first | exact HB.out | apply below_alloc | apply pw_below_drewN | apply below_drew1 | refine below_set ?_ GE302.out) | exact HB.out)))); have n2_ := Aside0.mk (blk_below (g := gb302) (o := .cells #[.slice A0_0 l0_0.length c0_0, .slice A0_1 l0_1.length c0_1] 44 (0, 0)) (by (with_reducible repeat (first | refine blk_drewN ?_ _ | refine blk_drew ?_ | refine blk_alloc ?_ _)); exact BK302.out) hb); have n3_ := Aside0.mk (below_step (by repeat (first | (with_reducible first | exact HB.out | apply below_alloc | apply pw_below_drewN | apply below_drew1 | refine below_set ?_ GE302.out) | exact HB.out)) hb); clear HO_4; clear BK302; clear HB; have HO_4 := n0_; have HO312 := n1_; have BK302 := n2_; have HB := n3_; clear n0_ n1_ n2_ n3_; (try clear hb); (try clear hb2); (try clear hk); (try clear hi); (try clear ho0); obtain ⟨Ao17, co17, eo17⟩ := Kd.R_slice HO312.out; subst eo17))
              go_loopg [28] k1 (fun kq v28 w' => ∃ (x4_2 : List Int) (x28_2 : Int), v28 = .int .i64 x28_2 ∧ Aside0 (impl_Meander_curves.l1 kq x4_2 x5_1 (t306.length : Int) x16_1 t310 (t310.length : Int) x28_2 l0_0 l0_1 = some (r1, r2)) ∧ Aside0 (kq ≤ k1) ∧ Aside0 (Kd.R (Kd.int .i64) 3 w' w.heap.size (fun k_ => some k_ ≠ ((.slice Ao17 t310.length co17) : Value).ownBlock) (.slice (some ad309) x4_1.length co9) x4_2) ∧ Aside0 (Kd.R (Kd.int .i64) 3 w' w.heap.size (fun k_ => some k_ ≠ ((.slice (some ad309) x4_1.length co9) : Value).ownBlock) (.slice Ao17 t310.length co17) t310) ∧ Aside0 (w'.heap[gb302]? = some (.cells #[(.slice A0_0 l0_0.length c0_0), (.slice A0_1 l0_1.length c0_1)] 44 (0, 0))) ∧ Aside0 (Below w.heap.size w w'))
              case atStart => exact ⟨(x4_1), (0), (by first | rfl | (simp; done) | (simp [*]; done)), H', ⟨Nat.le_refl _⟩, ⟨by (try simp only [hl4_1]); (with_reducible repeat (first | apply Kd.R_alloc | apply Kd.R_drewN | apply Kd.R_drew)); exact Kd.R_mono HO_4.out (fun _ hk => hk.2)⟩, ⟨by (try simp only [hl4_1]); (with_reducible repeat (first | apply Kd.R_alloc | apply Kd.R_drewN | apply Kd.R_drew)); exact Kd.R_mono HO312.out (fun _ hk => hk.2)⟩, ⟨by (try simp only [hl4_1]); (with_reducible repeat (first | refine blk_drewN ?_ _ | refine blk_drew ?_ | refine blk_alloc ?_ _)); exact BK302.out⟩, ⟨by repeat (first | (with_reducible first | exact HB.out | apply below_alloc | apply pw_below_drewN | apply below_drew1 | refine below_set ?_ GE302.out) | exact HB.out)⟩⟩
              case round =>
                clear H'
                try clear c1
                try clear p2
                try clear p3
                try clear q3
                try clear hx3
                try clear p6
                try clear c9
                try clear c10
                try clear c10b0
                try clear c11
                try clear c11b0
                try clear c12
                try clear c12b0
                try clear c13
                try clear c13b0
                try clear hcz15_0
                try clear hcz15_1
                try clear hcz6_0
                try clear hcz6_1
                try clear hfz15_0
                try clear hfz15_1
                try clear hfz6_0
                try clear hfz6_1
                try clear hx309_0
                try clear p2
                try clear p309
                try clear q309
                obtain ⟨x4_2, x28_2, rfl, HA, HK2, HO_4, HO_26, BK302, HB⟩ := hrel
                have hl4_2 := (Kd.R_reads' HO_4.out).1
                rw [hl4_2] at HO_4
                (try simp only [hl4_2])
                (try simp only [hl4_2] at BK302)
                (try simp only [hl4_2] at HO_26)
                cases gk with
                | zero => exact absurd HA.out (by simp [impl_Meander_curves.l1])
                | succ k2 =>
                  have H := HA.out
                  clear HA
                  simp only [impl_Meander_curves.l1] at H
                  by_cases c18 : x28_2 < (t310.length : Int)
                  · rw [if_pos c18] at H
                    have c18b0 : decide (x28_2 < (t310.length : Int)) = true := decide_eq_true c18
                    (try simp only [hl4_1] at c18b0)
                    (try simp only [hl4_2] at c18b0)
                    clear c18
                    by_cases c19 : 0 ≤ x28_2
                    · rw [if_pos c19] at H
                      have c19b0 : decide (0 ≤ x28_2) = true := decide_eq_true c19
                      clear c19
                      by_cases c20 : x28_2 < (t310.length : Int)
                      · rw [if_pos c20] at H
                        have c20b0 : decide (x28_2 < (t310.length : Int)) = true := decide_eq_true c20
                        (try simp only [hl4_1] at c20b0)
                        (try simp only [hl4_2] at c20b0)
                        clear c20
                        by_cases c21 : 0 ≤ (rd t310 x28_2)
                        · rw [if_pos c21] at H
                          have c21b0 : decide (0 ≤ (rd t310 x28_2)) = true := decide_eq_true c21
                          clear c21
                          by_cases c22 : (rd t310 x28_2) < (x4_2.length : Int)
                          · rw [if_pos c22] at H
                            have c22b0 : decide ((rd t310 x28_2) < (x4_2.length : Int)) = true := decide_eq_true c22
                            (try simp only [hl4_1] at c22b0)
                            (try simp only [hl4_2] at c22b0)
                            clear c22
                            obtain ⟨y314, hy314⟩ : ∃ y_ : List Int, y_ = (x4_2.set ((rd t310 x28_2) : Int).toNat x5_1) := ⟨_, rfl⟩
                            replace H : (impl_Meander_curves.l1 k2 y314 x5_1 (t306.length : Int) x16_1 t310 (t310.length : Int) (wrap64 (x28_2 + 1)) l0_0 l0_1) = some (r1, r2) := by first | (rw [hy314]; with_reducible exact H) | (have H2_ := (Option.bind_some _ _).symm.trans H; rw [hy314]; with_reducible exact H2_) | (have H2_ := (Option.bind_some _ _).symm.trans H; with_reducible exact H2_) | with_reducible exact H | (rw [hy314]; exact H) | exact H
                            have Ny314 := Aside0.mk hy314
                            clear hy314
                            have H' := Aside0.mk H
                            clear H
                            have p313 : 0 ≤ (x28_2 : Int) := of_decide_eq_true (by first | (with_reducible assumption) | assumption)
                            have q313 : x28_2 < (t310.length : Int) := of_decide_eq_true (by first | (with_reducible assumption) | assumption)
                            obtain ⟨ad313, e313, hx313_0⟩ := Kd.at_int (Kd.R_reads' HO_26.out).2.2 x28_2 p313 q313
                            cases e313
                            replace p313 := eq_true p313
                            replace q313 := eq_true q313
                            have p23 : 0 ≤ ((rd t310 x28_2) : Int) := of_decide_eq_true (by first | (with_reducible assumption) | assumption)
                            have q23 : ((rd t310 x28_2) : Int) < ((x4_2.length : Int) : Int) := of_decide_eq_true (by first | (with_reducible assumption) | assumption)
                            obtain ⟨go23, co23, eo23, gb23, gl23, cl23, HG23⟩ := Kd.R_form HO_4.out (by omega)
                            (first | cases eo23 | (injection eo23 with ea_ en_ ec_; (first | subst ea_ | (injection ea_ with ea_; subst ea_)); subst ec_; clear en_))
                            have GB23 := Aside0.mk gb23
                            have GG23 := Aside0.mk HG23
                            clear gb23 gl23 HG23
                            (first | simp only [add_plain] at hx309_0 | skip)
                            obtain ⟨hx23_0, hf23_0⟩ := Kd.R_celln 0 HO_4.out ((rd t310 x28_2) : Int) p23 q23
                            replace p23 := eq_true p23
                            replace q23 := eq_true q23
                            have HP24 := Kd.R_putg HO_4.out ((rd t310 x28_2) : Int) x5_1
                            go_wp2_with (first | ((with_reducible refine gate_store (t := 3) (p := 35) rfl ?_); refine store_event (t := 3) (p := 35) (v := ?vo_w25) (w1 := (wr.setCell ⟨go23, ((rd t310 x28_2) : Int).toNat, none⟩ (.int .i64 x5_1))) ?hg ?ho ?hn ?hr ?_; (case ho => rfl); (case hg => rfl); (case hn => rfl); (case hr => first | (go_simp; done) | (go_simp; rfl)); intro w25 hw; have hg : wr.grownBy w25 (some go23) := (by rw [hw]; exact HP24.2); have hp_ : Kd.R (Kd.int .i64) 3 w25 w.heap.size (fun k_ => some k_ ≠ (.slice (some ad313) t310.length co17 : Value).ownBlock) (.slice (some ⟨go23, 0, none⟩) x4_2.length co9) y314 := (by rw [hw, Ny314.out]; exact HP24.1); clear HP24; have n0_ := Aside0.mk (hp_); have n1_ := Aside0.mk (Kd.R_after (v := (.slice (some ⟨go23, 0, none⟩) x4_2.length co9)) (v1 := (.slice (some ⟨go23, 0, none⟩) x4_2.length co9)) (ok := (fun _ => True)) (by (with_reducible repeat (first | apply Kd.R_alloc | apply Kd.R_drewN | apply Kd.R_drew)); exact Kd.R_mono HO_26.out (fun _ hk => ⟨trivial, hk⟩)) hg (.inl rfl)); have n2_ := Aside0.mk (blk_grown (g := gb302) (o := .cells #[.slice A0_0 l0_0.length c0_0, .slice A0_1 l0_1.length c0_1] 44 (0, 0)) (by (with_reducible repeat (first | refine blk_drewN ?_ _ | refine blk_drew ?_ | refine blk_alloc ?_ _)); exact BK302.out) hg (Kd.R_ne HO_4.out BK302.out (by decide))); have n3_ := Aside0.mk ((by rw [hw]; exact below_set (HB.out) GB23.out : Below w.heap.size w w25)); clear HO_4; clear HO_26; clear BK302; clear HB; have HO_4 := n0_; have HO_26 := n1_; have BK302 := n2_; have HB := n3_; clear n0_ n1_ n2_ n3_; clear hg hw hp_))
                            (try simp only [← hl4_2])
                            go_roundg k2
                            case measure => have := HK1.out; have := HK2.out; omega
                            case rel => exact ⟨(y314), (wrap64 (x28_2 + 1)), (by first | rfl | (simp; done) | (simp [*]; done)), H', ⟨by have := HK1.out; have := HK2.out; omega⟩, ⟨by (try simp only [hl4_1]); (try simp only [hl4_2]); (with_reducible repeat (first | apply Kd.R_alloc | apply Kd.R_drewN | apply Kd.R_drew)); exact HO_4.out⟩, ⟨by (try simp only [hl4_1]); (try simp only [hl4_2]); (with_reducible repeat (first | apply Kd.R_alloc | apply Kd.R_drewN | apply Kd.R_drew)); exact Kd.R_mono HO_26.out (fun _ hk => hk.2)⟩, ⟨by (try simp only [hl4_1]); (try simp only [hl4_2]); (with_reducible repeat (first | refine blk_drewN ?_ _ | refine blk_drew ?_ | refine blk_alloc ?_ _)); exact BK302.out⟩, ⟨by repeat (first | (with_reducible first | exact HB.out | apply below_alloc | apply pw_below_drewN | apply below_drew1 | refine below_set ?_ GE302.out) | exact HB.out)⟩⟩
                          · rw [if_neg c22] at H
                            exact absurd H (by simp)
                        · rw [if_neg c21] at H
                          exact absurd H (by simp)
                      · rw [if_neg c20] at H
                        exact absurd H (by simp)
                    · rw [if_neg c19] at H
                      exact absurd H (by simp)
                  · rw [if_neg c18] at H
                    have c18b0 : decide (x28_2 < (t310.length : Int)) = false := decide_eq_false c18
                    (try simp only [hl4_1] at c18b0)
                    (try simp only [hl4_2] at c18b0)
                    clear c18
                    have H' := Aside0.mk H
                    clear H
                    go_wp2
                    (try simp only [← hl4_1, ← hl4_2])
                    go_roundg k2
                    case measure => have := HK1.out; have := HK2.out; omega
                    case rel => exact ⟨(x4_2), (wrap64 (x5_1 + 1)), (wrap64 (x16_1 + 1)), (by first | rfl | (simp; done) | (simp [*]; done)), (by first | rfl | (simp; done) | (simp [*]; done)), H', ⟨by have := HK1.out; have := HK2.out; omega⟩, ⟨by (try simp only [hl4_1]); (try simp only [hl4_2]); (with_reducible repeat (first | apply Kd.R_alloc | apply Kd.R_drewN | apply Kd.R_drew)); exact Kd.R_mono HO_4.out (fun _ hk => trivial)⟩, ⟨by (try simp only [hl4_1]); (try simp only [hl4_2]); (with_reducible repeat (first | refine blk_drewN ?_ _ | refine blk_drew ?_ | refine blk_alloc ?_ _)); exact BK302.out⟩, ⟨by repeat (first | (with_reducible first | exact HB.out | apply below_alloc | apply pw_below_drewN | apply below_drew1 | refine below_set ?_ GE302.out) | exact HB.out)⟩⟩
          · rw [if_neg c12] at H
            exact absurd H (by simp)
        · rw [if_neg c11] at H
          exact absurd H (by simp)
      · rw [if_neg c10] at H
        have c10b0 : decide (x16_1 < (t306.length : Int)) = false := decide_eq_false c10
        (try simp only [hl4_1] at c10b0)
        (try simp only [hl4_2] at c10b0)
        clear c10
        simp only [Option.some.injEq, Prod.mk.injEq] at H
        obtain ⟨rfl, rfl⟩ := H
        go_wp2
        go_ret2
        exact ⟨_, by first | rfl | (simp [errW_none, errW_some] <;> rfl) | (simp [*, errW_none, errW_some] <;> rfl), by (with_reducible repeat (first | apply Kd.R_alloc | apply Kd.R_drewN | apply Kd.R_drew)); exact HO_4.out, by repeat (first | (with_reducible first | exact HB.out | apply below_alloc | apply pw_below_drewN | apply below_drew1 | refine below_set ?_ GE302.out) | exact HB.out)⟩

/-! ### impl_Meander_components: function 69 -/
def impl_Meander_components.f (k : Nat) (l0_0 : List Int) (l0_1 : List Int) : Option (Int) := (impl_Meander_curves.f k l0_0 l0_1).bind fun bt316 => (some bt316.2)
theorem impl_Meander_components.mono : ∀ a0 a1 k, LeO (impl_Meander_components.f k a0 a1) (impl_Meander_components.f (k + 1) a0 a1) := by
  intro a0 a1 k
  unfold impl_Meander_components.f
  repeat' first
      | (with_reducible exact impl_Meander_curves.mono _ _ _)
      | (with_reducible exact LeO.refl _)
      | (with_reducible exact LeO.none _)
      | (with_reducible refine LeO.ite ?_ ?_)
      | (with_reducible refine LeO.bind ?_ (fun _ => ?_))
      | exact impl_Meander_curves.mono _ _ _
      | exact LeO.none _
      | refine LeO.ite ?_ ?_
      | refine LeO.bind ?_ (fun _ => ?_)
set_option maxHeartbeats 8000000 in
set_option maxRecDepth 100000 in
theorem impl_Meander_components.calls (k : Nat) (A0_0 : Option Addr) (c0_0 : Nat) (l0_0 : List Int) (A0_1 : Option Addr) (c0_1 : Nat) (l0_1 : List Int) (r : Int) (w : World) (hr0_0 : Kd.C (Kd.int .i64) w A0_0 l0_0.length l0_0) (hc0_0 : l0_0.length ≤ c0_0) (hr0_1 : Kd.C (Kd.int .i64) w A0_1 l0_1.length l0_1) (hc0_1 : l0_1.length ≤ c0_1) (h : impl_Meander_components.f k l0_0 l0_1 = some r) :
    Calls Try.prog 69 #[.agg #[.slice A0_0 l0_0.length c0_0, .slice A0_1 l0_1.length c0_1]] w fun e w' => e = .returned (.int .i64 r) ∧ Below w.heap.size w w' := by
  have hu44 := Try.underlying44
  have HR0_0 := Aside0.mk hr0_0
  have HC0_0 := Aside0.mk hc0_0
  clear hr0_0 hc0_0
  have HR0_1 := Aside0.mk hr0_1
  have HC0_1 := Aside0.mk hc0_1
  clear hr0_1 hc0_1
  have HB := Aside0.mk (Below.refl w.heap.size w)
  have H : ((impl_Meander_curves.f k l0_0 l0_1).bind fun bt316 => (some bt316.2)) = some r := h
  clear h
  replace H := Option.bind_eq_some_iff.mp H
  obtain ⟨⟨t316, t319⟩, A20, H⟩ := H
  replace H : (some t319) = some r := H
  have A2 := Aside0.mk A20
  clear A20
  obtain rfl := Option.some.inj H
  go_enter Try.func69, Try.ntmps69
  go_wp2_with (first | ((with_reducible refine gate_dst (N := 1) rfl ?_); refine box_event ?hg (N := 1) ?hd (cs := #[.slice A0_0 l0_0.length c0_0, .slice A0_1 l0_1.length c0_1]) (t := 44) ?hr ?_; (case hd => rfl); (case hg => rfl); (case hr => first | (go_simp; done) | (go_simp; rfl)); intro gb315 hg w3 hbox hb; have n0_ := Aside0.mk (below_step (by repeat (first | (with_reducible first | exact HB.out | apply below_alloc | apply pw_below_drewN | apply below_drew1) | exact HB.out)) hb); have n1_ := Aside0.mk (hbox); have n2_ := Aside0.mk ((by rw [hg]; exact (below_size (by repeat (first | (with_reducible first | exact HB.out | apply below_alloc | apply pw_below_drewN | apply below_drew1) | exact HB.out))) : w.heap.size ≤ gb315)); have n3_ := Aside0.mk ((by rw [hg]; exact (below_size (by repeat (first | (with_reducible first | exact HB.out | apply below_alloc | apply pw_below_drewN | apply below_drew1) | exact HB.out))) : w.heap.size ≤ gb315)); clear HB; have HB := n0_; have BK315 := n1_; have GW315 := n2_; have GE315 := n3_; clear n0_ n1_ n2_ n3_; clear hb hbox hg; have hcz4_0 : w3.cell? ⟨gb315, 0, none⟩ = some (.slice A0_0 l0_0.length c0_0) := (blk_cell BK315.out 0).trans rfl; have hcz4_1 : w3.cell? ⟨gb315, 1, none⟩ = some (.slice A0_1 l0_1.length c0_1) := (blk_cell BK315.out 1).trans rfl; have hfz4_0 := blk_frozen BK315.out 0; have hfz4_1 := blk_frozen BK315.out 1) | ((with_reducible refine gate_callee (f := 93) rfl ?_); refine goesL_ (some 7) rfl rfl Try.func93 (by kernel_rfl) rfl #[.agg #[.slice A0_0 l0_0.length c0_0, .slice A0_1 l0_1.length c0_1]] rfl (by (try simp only [List.map_toArray, List.map_cons, List.map_nil]); first | done | rfl | (simp only [List.length_drop, List.length_take]; rfl)) ?_; (with_reducible refine (impl_Meander_curves.calls k _ _ l0_0 _ _ l0_1 t316 t319 _ ?side1 ?side2 ?side3 ?side4 A2.out).mono ?_); (case side1 => repeat (first | exact (Kd.C_below HR0_0.out HB.out) | (with_reducible refine Kd.C_alloc ?_ _) | (with_reducible refine Kd.C_drewN ?_ _) | (with_reducible refine Kd.C_drew ?_))); (case side2 => exact HC0_0.out); (case side3 => repeat (first | exact (Kd.C_below HR0_1.out HB.out) | (with_reducible refine Kd.C_alloc ?_ _) | (with_reducible refine Kd.C_drewN ?_ _) | (with_reducible refine Kd.C_drew ?_))); (case side4 => exact HC0_1.out); rintro e w5 ⟨v317, rfl, ho0, hb⟩; refine ⟨_, rfl, ?_⟩; have n0_ := Aside0.mk (Kd.R_lower ho0 (below_size (by repeat (first | (with_reducible first | exact HB.out | apply below_alloc | apply pw_below_drewN | apply below_drew1 | refine below_set ?_ GE315.out) | exact HB.out)))); have n1_ := Aside0.mk (blk_below (g := gb315) (o := .cells #[.slice A0_0 l0_0.length c0_0, .slice A0_1 l0_1.length c0_1] 44 (0, 0)) (by (with_reducible repeat (first | refine blk_drewN ?_ _ | refine blk_drew ?_ | refine blk_alloc ?_ _)); exact BK315.out) hb); have n2_ := Aside0.mk (below_step (by repeat (first | (with_reducible first | exact HB.out | apply below_alloc | apply pw_below_drewN | apply below_drew1 | refine below_set ?_ GE315.out) | exact HB.out)) hb); clear BK315; clear HB; have HO318 := n0_; have BK315 := n1_; have HB := n2_; clear n0_ n1_ n2_; (try clear hb); (try clear hb2); (try clear hk); (try clear hi); (try clear ho0)))
  go_ret
  exact ⟨by first | rfl | (simp [errW_none, errW_some] <;> rfl) | (simp [*, errW_none, errW_some] <;> rfl), by repeat (first | (with_reducible first | exact HB.out | apply below_alloc | apply pw_below_drewN | apply below_drew1 | refine below_set ?_ GE315.out) | exact HB.out)⟩

/-! ### impl_Meander_isOne: function 75 -/
def impl_Meander_isOne.f (k : Nat) (l0_0 : List Int) (l0_1 : List Int) : Option (Bool) := (impl_Meander_components.f k l0_0 l0_1).bind fun t321 => (some (t321 == 1))
theorem impl_Meander_isOne.mono : ∀ a0 a1 k, LeO (impl_Meander_isOne.f k a0 a1) (impl_Meander_isOne.f (k + 1) a0 a1) := by
  intro a0 a1 k
  unfold impl_Meander_isOne.f
  repeat' first
      | (with_reducible exact impl_Meander_components.mono _ _ _)
      | (with_reducible exact LeO.refl _)
      | (with_reducible exact LeO.none _)
      | (with_reducible refine LeO.ite ?_ ?_)
      | (with_reducible refine LeO.bind ?_ (fun _ => ?_))
      | exact impl_Meander_components.mono _ _ _
      | exact LeO.none _
      | refine LeO.ite ?_ ?_
      | refine LeO.bind ?_ (fun _ => ?_)
set_option maxHeartbeats 8000000 in
set_option maxRecDepth 100000 in
theorem impl_Meander_isOne.calls (k : Nat) (A0_0 : Option Addr) (c0_0 : Nat) (l0_0 : List Int) (A0_1 : Option Addr) (c0_1 : Nat) (l0_1 : List Int) (r : Bool) (w : World) (hr0_0 : Kd.C (Kd.int .i64) w A0_0 l0_0.length l0_0) (hc0_0 : l0_0.length ≤ c0_0) (hr0_1 : Kd.C (Kd.int .i64) w A0_1 l0_1.length l0_1) (hc0_1 : l0_1.length ≤ c0_1) (h : impl_Meander_isOne.f k l0_0 l0_1 = some r) :
    Calls Try.prog 75 #[.agg #[.slice A0_0 l0_0.length c0_0, .slice A0_1 l0_1.length c0_1]] w fun e w' => e = .returned (.bool r) ∧ Below w.heap.size w w' := by
  have hu44 := Try.underlying44
  have HR0_0 := Aside0.mk hr0_0
  have HC0_0 := Aside0.mk hc0_0
  clear hr0_0 hc0_0
  have HR0_1 := Aside0.mk hr0_1
  have HC0_1 := Aside0.mk hc0_1
  clear hr0_1 hc0_1
  have HB := Aside0.mk (Below.refl w.heap.size w)
  have H : ((impl_Meander_components.f k l0_0 l0_1).bind fun t321 => (some (t321 == 1))) = some r := h
  clear h
  replace H := Option.bind_eq_some_iff.mp H
  obtain ⟨t321, A20, H⟩ := H
  replace H : (some (t321 == 1)) = some r := H
  have A2 := Aside0.mk A20
  clear A20
  obtain rfl := Option.some.inj H
  go_enter Try.func75, Try.ntmps75
  go_wp2_with (first | ((with_reducible refine gate_dst (N := 1) rfl ?_); refine box_event ?hg (N := 1) ?hd (cs := #[.slice A0_0 l0_0.length c0_0, .slice A0_1 l0_1.length c0_1]) (t := 44) ?hr ?_; (case hd => rfl); (case hg => rfl); (case hr => first | (go_simp; done) | (go_simp; rfl)); intro gb320 hg w3 hbox hb; have n0_ := Aside0.mk (below_step (by repeat (first | (with_reducible first | exact HB.out | apply below_alloc | apply pw_below_drewN | apply below_drew1) | exact HB.out)) hb); have n1_ := Aside0.mk (hbox); have n2_ := Aside0.mk ((by rw [hg]; exact (below_size (by repeat (first | (with_reducible first | exact HB.out | apply below_alloc | apply pw_below_drewN | apply below_drew1) | exact HB.out))) : w.heap.size ≤ gb320)); have n3_ := Aside0.mk ((by rw [hg]; exact (below_size (by repeat (first | (with_reducible first | exact HB.out | apply below_alloc | apply pw_below_drewN | apply below_drew1) | exact HB.out))) : w.heap.size ≤ gb320)); clear HB; have HB := n0_; have BK320 := n1_; have GW320 := n2_; have GE320 := n3_; clear n0_ n1_ n2_ n3_; clear hb hbox hg; have hcz4_0 : w3.cell? ⟨gb320, 0, none⟩ = some (.slice A0_0 l0_0.length c0_0) := (blk_cell BK320.out 0).trans rfl; have hcz4_1 : w3.cell? ⟨gb320, 1, none⟩ = some (.slice A0_1 l0_1.length c0_1) := (blk_cell BK320.out 1).trans rfl; have hfz4_0 := blk_frozen BK320.out 0; have hfz4_1 := blk_frozen BK320.out 1) | ((with_reducible refine gate_callee (f := 69) rfl ?_); refine goesL_ (some 4) rfl rfl Try.func69 (by kernel_rfl) rfl #[.agg #[.slice A0_0 l0_0.length c0_0, .slice A0_1 l0_1.length c0_1]] rfl (by (try simp only [List.map_toArray, List.map_cons, List.map_nil]); first | done | rfl | (simp only [List.length_drop, List.length_take]; rfl)) ?_; (with_reducible refine (impl_Meander_components.calls k _ _ l0_0 _ _ l0_1 t321 _ ?side1 ?side2 ?side3 ?side4 A2.out).mono ?_); (case side1 => repeat (first | exact (Kd.C_below HR0_0.out HB.out) | (with_reducible refine Kd.C_alloc ?_ _) | (with_reducible refine Kd.C_drewN ?_ _) | (with_reducible refine Kd.C_drew ?_))); (case side2 => exact HC0_0.out); (case side3 => repeat (first | exact (Kd.C_below HR0_1.out HB.out) | (with_reducible refine Kd.C_alloc ?_ _) | (with_reducible refine Kd.C_drewN ?_ _) | (with_reducible refine Kd.C_drew ?_))); (case side4 => exact HC0_1.out); rintro e w5 ⟨rfl, hb⟩; refine ⟨_, rfl, ?_⟩; have n0_ := Aside0.mk (blk_below (g := gb320) (o := .cells #[.slice A0_0 l0_0.length c0_0, .slice A0_1 l0_1.length c0_1] 44 (0, 0)) (by (with_reducible repeat (first | refine blk_drewN ?_ _ | refine blk_drew ?_ | refine blk_alloc ?_ _)); exact BK320.out) hb); have n1_ := Aside0.mk (below_step (by repeat (first | (with_reducible first | exact HB.out | apply below_alloc | apply pw_below_drewN | apply below_drew1 | refine below_set ?_ GE320.out) | exact HB.out)) hb); clear BK320; clear HB; have BK320 := n0_; have HB := n1_; clear n0_ n1_; (try clear hb); (try clear hb2); (try clear hk); (try clear hi)))
  go_ret
  exact ⟨by first | rfl | (simp [errW_none, errW_some] <;> rfl) | (simp [*, errW_none, errW_some] <;> rfl), by repeat (first | (with_reducible first | exact HB.out | apply below_alloc | apply pw_below_drewN | apply below_drew1 | refine below_set ?_ GE320.out) | exact HB.out)⟩

-- NOT PRINTED: function 74 (impl_ClosingWith_1)

/-! ### impl_ClosingWith: function 49 (by hand) -/
/-! #### slices.IndexFunc and slices.DeleteFunc at elements of one cell, for a function value that may make memory (the shelf's proofs, turned to such a one) -/
section
open Go.Sort Go.Lib
theorem impl_ClosingWith.idx_spec {α : Type} (eq : α → α → Bool) (x : α) [Inhabited α] : ∀ (l : List α) (i : Nat), (Lib.idxByFrom eq x l i = -1 ∧ ∀ j, j < l.length → eq x l[j]! = false) ∨ ∃ k, k < l.length ∧ Lib.idxByFrom eq x l i = ((i + k : Nat) : Int) ∧ eq x l[k]! = true ∧ ∀ j, j < k → eq x l[j]! = false
  | [], _ => .inl ⟨rfl, fun j hj => absurd hj (Nat.not_lt_zero _)⟩
  | y :: r, i => by
    cases h : eq x y with
    | true => exact .inr ⟨0, by simp, by simp [Lib.idxByFrom, h], by simpa using h, fun j hj => absurd hj (Nat.not_lt_zero _)⟩
    | false =>
      rcases impl_ClosingWith.idx_spec eq x r (i + 1) with ⟨e, ha⟩ | ⟨k, hk, e, ht, ha⟩
      · refine .inl ⟨by simp [Lib.idxByFrom, h, e], fun j hj => ?_⟩
        cases j with
        | zero => simpa using h
        | succ j => simpa using ha j (by simpa using hj)
      · refine .inr ⟨k + 1, by simpa using hk, by simp only [Lib.idxByFrom, h]; rw [show (if false = true then (i : Int) else Lib.idxByFrom eq x r (i + 1)) = Lib.idxByFrom eq x r (i + 1) from rfl, e]; congr 1; omega, by simpa using ht, fun j hj => ?_⟩
        cases j with
        | zero => simpa using h
        | succ j => simpa using ha j (by omega)
/-- What stands behind a call that made memory, the row holding dk: another world in which the row as it came in holds d, with dk laid into it. -/
theorem impl_ClosingWith.back {α : Type} [Inhabited α] {en : α → Value} {w W0 w' : World} {blk off : Nat} {d dk : Array α} (hH : Holds en w blk off d) (hbl : blk < w.heap.size) (hb : Below w.heap.size w W0) (hs : dk.size = d.size) (h : Below (putRow en W0 blk off dk).heap.size (putRow en W0 blk off dk) w') :
    ∃ W1, w' = putRow en W1 blk off dk ∧ Below w.heap.size w W1 := by
  have hH0 : Holds en W0 blk off d := fun j hj => ⟨(hb.cell (p := ⟨blk, off + j, none⟩) hbl).trans (hH j hj).1, (hb.frozen (p := ⟨blk, off + j, none⟩) hbl).trans (hH j hj).2⟩
  have hbl0 : blk < (putRow en W0 blk off dk).heap.size := by rw [Go.Sort.size_putRow]; exact Nat.lt_of_lt_of_le hbl hb.size
  have hHk : Holds en (putRow en W0 blk off dk) blk off dk := holds_putRow en W0 blk off d dk hH0 hs
  have hH' : Holds en w' blk off dk := fun j hj => ⟨(h.cell (p := ⟨blk, off + j, none⟩) hbl0).trans (hHk j hj).1, (h.frozen (p := ⟨blk, off + j, none⟩) hbl0).trans (hHk j hj).2⟩
  refine ⟨putRow en w' blk off d, ?_, ?_⟩
  · rw [putRow_putRow en w' blk off d dk hs, putRow_self en w' blk off dk hH']
  · have hlt : ∀ k, k < w.heap.size → k < (putRow en W0 blk off dk).heap.size := fun k hk => by rw [Go.Sort.size_putRow]; exact Nat.lt_of_lt_of_le hk hb.size
    have hmod : ∀ (W : World) (dd : Array α) (k : Nat), (putRow en W blk off dd).heap[k]? = if blk = k then (W.heap[k]?).map (onCells (putCells en off dd)) else W.heap[k]? := fun W dd k => by
      simp only [putRow, mapBlock, Array.getElem?_modify]
    refine ⟨h.os.trans hb.os, h.tape.trans hb.tape, h.output.trans hb.output, ?_, fun k hk => ?_⟩
    · rw [Go.Sort.size_putRow]
      have := h.size
      rw [Go.Sort.size_putRow] at this
      exact Nat.le_trans hb.size this
    · rw [hmod, h.block k (hlt k hk), hmod, hb.block k hk]
      by_cases e : blk = k
      · subst e
        rw [if_pos rfl, if_pos rfl]
        have hself := congrArg (fun W : World => W.heap[blk]?) (putRow_self en w blk off d hH)
        simp only [hmod, if_pos] at hself
        rw [Option.map_map]
        conv => rhs; rw [← hself]
        congr 1
        funext o
        cases o with
        | cells c e fr =>
          simp only [Function.comp, onCells]
          congr 1
          apply Array.ext_getElem?
          intro j
          simp only [putCells, Array.getElem?_mapIdx]
          cases c[j]? with
          | none => rfl
          | some x =>
            simp only [Option.map_some]
            by_cases hj : off ≤ j ∧ j < off + d.size
            · rw [if_pos hj, if_pos hj]
            · rw [if_neg hj, if_neg hj, if_neg (by omega)]
        | _ => rfl
      · rw [if_neg e, if_neg e]
set_option maxHeartbeats 4000000 in
set_option maxRecDepth 1000000 in
theorem impl_ClosingWith.index {α : Type} [Inhabited α] (en : α → Value) (p : α → Bool) (g : Nat) (lb : Array Value) (eg : ∀ args w, (callFunc g args).run Try.prog w = .ok (.enter g args) w) (b off n c : Nat) (zs : List α) (w : World)
    (hp : ∀ (W : World) (x : α), x ∈ zs → Below w.heap.size w W → Calls Try.prog g (#[en x] ++ lb) W fun e w' => e = .returned (.bool (p x)) ∧ Below W.heap.size W w') (hbl : b < w.heap.size) (hz : n ≤ zs.length) (hbig : n ≤ 9223372036854775807) (hc : ∀ j, j < zs.length → w.cell? ⟨b, off + j, none⟩ = some (en zs[j]!)) :
    Calls Try.prog 97 #[.slice (some ⟨b, off, none⟩) n c, .func (.func g) #[] lb] w fun e w' => e = .returned (.int .i64 (Lib.idxBy (fun _ y => p y) (zs.take n) default)) ∧ Below w.heap.size w w' := by
  have HP := Aside0.mk hp
  clear hp
  go_enter Try.func97, Try.ntmps97
  go_wp2
  go_loopg [5, 8] n (fun gg _ s8 wr => ∃ kk : Nat, kk ≤ n ∧ n - kk ≤ gg ∧ s8 = .int .i64 kk ∧ Aside0 (Below w.heap.size w wr) ∧ Aside0 (∀ j, j < kk → p zs[j]! = false))
  case atStart => exact ⟨0, Nat.zero_le _, by omega, rfl, ⟨Below.refl _ _⟩, ⟨fun j hj => absurd hj (Nat.not_lt_zero _)⟩⟩
  case round =>
    obtain ⟨kk, hkk, hg, rfl, HB, A⟩ := hrel
    by_cases hlt : kk < n
    · have hltz : (kk : Int) < (n : Int) := by omega
      have hcell : wr.cell? ⟨b, off + kk, none⟩ = some (en zs[kk]!) := (HB.out.cell (p := ⟨b, off + kk, none⟩) hbl).trans (hc kk (by omega))
      clear hc
      generalize hy : zs[kk]! = y at hcell
      have B : Aside0 (zs[kk]! = y) := ⟨hy⟩
      clear hy
      have hcall := HP.out wr y (by rw [← B.out, getElem!_pos zs kk (by omega)]; exact List.getElem_mem _) HB.out
      cases hq : p y with
      | true =>
        rw [hq] at hcall
        have HC := Aside0.mk hcall
        clear hcall
        go_wp2_with ((refine HC.out.mono ?_); rintro e w' ⟨rfl, hb'⟩; have HB' := Aside0.mk (below_step HB.out hb'); clear hb')
        go_ret
        refine ⟨?_, HB'.out⟩
        rw [Lib.idxBy_hit (fun _ y => p y) zs n kk default hlt hz (by show p zs[kk]! = true; rw [B.out]; exact hq) A.out]
        rfl
      | false =>
        rw [hq] at hcall
        have HC := Aside0.mk hcall
        clear hcall
        go_wp2_with ((refine HC.out.mono ?_); rintro e w' ⟨rfl, hb'⟩; have HB' := Aside0.mk (below_step HB.out hb'); clear hb')
        go_roundg (n - (kk + 1))
        case measure => omega
        case rel =>
          refine ⟨kk + 1, by omega, by omega, by go_num, HB', ⟨fun j hj => ?_⟩⟩
          by_cases e : j = kk
          · subst e
            rw [B.out]; exact hq
          · exact A.out j (by omega)
    · have hltz : ¬ (kk : Int) < (n : Int) := by omega
      have : kk = n := by omega
      subst this
      go_wp2
      go_ret
      refine ⟨?_, HB.out⟩
      rw [Lib.idxBy_miss (fun _ y => p y) zs kk default A.out]
      rfl
set_option maxHeartbeats 4000000 in
set_option maxRecDepth 1000000 in
theorem impl_ClosingWith.delete {α : Type} [Inhabited α] (en : α → Value) (hO : Go.Proofs.OneCell en) (p : α → Bool) (g : Nat) (lb : Array Value) (eg : ∀ args w, (callFunc g args).run Try.prog w = .ok (.enter g args) w) (zr : α) (v23 : ∀ w, (zeroValue 25).run Try.prog w = .ok (en zr) w)
    (blk off cap : Nat) (d : Array α) (w : World) (hp : ∀ (W : World) (a : α) (dk : Array α), a ∈ d.toList → Below w.heap.size w W → dk.size = d.size → Calls Try.prog g (#[en a] ++ lb) (putRow en W blk off dk) fun e w' => e = .returned (.bool (p a)) ∧ Below (putRow en W blk off dk).heap.size (putRow en W blk off dk) w') (hH : Holds en w blk off d) (hbl : blk < w.heap.size) (hsz : d.size ≤ 9223372036854775807) (hcap : d.size ≤ cap) :
    Calls Try.prog 73 #[.slice (some ⟨blk, off, none⟩) d.size cap, .func (.func g) #[] lb] w fun e w' => e = .returned (.slice (some ⟨blk, off, none⟩) (d.toList.filter fun x => !p x).length cap) ∧ ∃ W1, w' = putRow en W1 blk off ((d.toList.filter fun x => !p x) ++ List.replicate (d.size - (d.toList.filter fun x => !p x).length) zr).toArray ∧ Below w.heap.size w W1 := by
  have hcl0 := hO.cells
  simp only [Value.cells] at hcl0
  have hst := hO.store Try.prog
  have tl : ∀ j, j < d.size → d.toList[j]! = d[j]! := fun j hj => by rw [getElem!_pos d j hj, getElem!_pos d.toList j (by simpa using hj)]; simp
  have hcI : ∀ j, j < d.toList.length → w.cell? ⟨blk, off + j, none⟩ = some (en d.toList[j]!) := fun j hj => by
    have hj' : j < d.size := by simpa using hj
    rw [(hH j hj').1, tl j hj']
  have hHof : ∀ W, Below w.heap.size w W → Holds en W blk off d := fun W hb j hj => ⟨(hb.cell (p := ⟨blk, off + j, none⟩) hbl).trans (hH j hj).1, (hb.frozen (p := ⟨blk, off + j, none⟩) hbl).trans (hH j hj).2⟩
  have hIF := impl_ClosingWith.index en p g lb eg blk off d.size cap d.toList w (fun W x hx hb => by
    have h1 := hp W x d hx hb rfl
    rw [putRow_self en W blk off d (hHof W hb)] at h1
    exact h1) hbl (by simp) hsz hcI
  rw [show d.toList.take d.size = d.toList from List.take_of_length_le (by simp)] at hIF
  obtain ⟨kp, HK⟩ : ∃ kp : Nat → Bool, Aside0 (kp = fun j => !p d[j]!) := ⟨_, ⟨rfl⟩⟩
  have hfil : (d.toList.filter fun x => !p x) = keptUpTo kp d d.size := by rw [HK.out]; exact (keptUpTo_filter (fun x => !p x) d).symm
  rw [hfil]
  rcases impl_ClosingWith.idx_spec (fun _ y => p y) default d.toList 0 with ⟨e1, hall⟩ | ⟨k0, hk0, e1, ht, hall⟩
  · have e2 : Lib.idxBy (fun _ y => p y) d.toList default = -1 := e1
    rw [e2] at hIF
    have hkeep : ∀ j, j < d.size → kp j = true := fun j hj => by rw [HK.out]; show (!p d[j]!) = true; rw [← tl j hj, hall j (by simpa using hj)]; rfl
    have e3 : keptUpTo kp d d.size = d.toList := by rw [keptUpTo_all kp d _ hkeep, range_map_get]
    have HH := Aside0.mk hHof
    have HI := Aside0.mk hIF
    clear hH hp hHof hIF hcI hall tl e1 e2 hkeep hfil
    go_enter Try.func73, Try.ntmps73
    go_wp2_with (go_at_call 97; refine HI.out.mono ?_; rintro e w' ⟨rfl, hb'⟩; have HB' := Aside0.mk hb'; clear hb')
    go_ret
    rw [e3]
    refine ⟨by simp, _, ?_, HB'.out⟩
    simp only [Array.length_toList, Nat.sub_self, List.replicate_zero, List.append_nil, Array.toArray_toList]
    exact (putRow_self en _ blk off d (HH.out _ HB'.out)).symm
  · have hk0' : k0 < d.size := by simpa using hk0
    have e2 : Lib.idxBy (fun _ y => p y) d.toList default = (k0 : Int) := by unfold Lib.idxBy; rw [e1]; simp
    rw [e2] at hIF
    have hkeep : ∀ j, j < k0 → kp j = true := fun j hj => by rw [HK.out]; show (!p d[j]!) = true; rw [← tl j (by omega), hall j hj]; rfl
    have hdrop : kp k0 = false := by rw [HK.out]; show (!p d[k0]!) = false; rw [← tl k0 hk0']; rw [show p d.toList[k0]! = true from ht]; rfl
    have hne1 : ((k0 : Int) == -1) = false := beq_eq_false_iff_ne.2 (by omega)
    have HC := Aside0.mk hp
    have HH := Aside0.mk hHof
    have HH0 := Aside0.mk hH
    have HI := Aside0.mk hIF
    clear hp hH hHof hIF hcI hall ht e1 e2 tl hfil
    go_enter Try.func73, Try.ntmps73
    go_wp2_with (go_at_call 97; refine HI.out.mono ?_; rintro e w' ⟨rfl, hb'⟩; have HB' := Aside0.mk hb'; clear hb')
    go_loopg [5, 6, 7] d.size (fun gg s5 s6 _ wr => ∃ (i j : Nat) (dk : Array α) (W0 : World), s5 = .int .i64 i ∧ s6 = .int .i64 j ∧ j ≤ d.size ∧ d.size - j ≤ gg ∧ wr = putRow en W0 blk off dk ∧ Aside0 (Below w.heap.size w W0) ∧ Aside0 (KeptInv kp d j i dk))
    case atStart => exact ⟨k0, k0 + 1, d, _, rfl, by go_num, by omega, by omega, (putRow_self en _ blk off d (HH.out _ HB'.out)).symm, HB', ⟨KeptInv.start hkeep hdrop⟩⟩
    case round =>
      obtain ⟨i, j, dk, W0, rfl, rfl, hjd, hgg, hwr, HB0, I2⟩ := hrel
      have hI := I2.out
      have hij := hI.lt
      have hds := hI.size
      have hHk : Holds en wr blk off dk := by rw [hwr]; exact holds_putRow en _ blk off d dk (HH.out _ HB0.out) hds
      have W2 : Aside0 (wr = putRow en W0 blk off dk) := ⟨hwr⟩
      by_cases hlt : j < d.size
      · have hltz : (j : Int) < (d.size : Int) := by omega
        obtain ⟨cj, _⟩ := hHk j (by omega)
        obtain ⟨ci, fi⟩ := hHk i (by omega)
        rw [hI.high j (by omega)] at cj
        have hcall := HC.out W0 d[j]! dk (by rw [getElem!_pos d j hlt]; exact Array.getElem_mem_toList hlt) HB0.out hds
        rw [← hwr] at hcall
        clear hHk hI hwr
        generalize hu : d[j]! = u at cj hcall
        generalize dk[i]! = old at ci
        have C : Aside0 (d[j]! = u) := ⟨hu⟩
        clear hu
        cases hq : p u with
        | false =>
          rw [hq] at hcall
          have HCC := Aside0.mk hcall
          clear hcall
          go_wp2_with ((refine HCC.out.mono ?_); rintro e w9 ⟨rfl, hb9⟩; have HB9 := Aside0.mk hb9; clear hb9; have ci9 : w9.cell? ⟨blk, off + i, none⟩ = some (en old) := (HB9.out.cell (p := ⟨blk, off + i, none⟩) (World.block_lt_of_cell? _ _ ci)).trans ci; have fi9 : w9.frozen? ⟨blk, off + i, none⟩ = false := (HB9.out.frozen (p := ⟨blk, off + i, none⟩) (World.block_lt_of_cell? _ _ ci)).trans fi)
          go_roundg (d.size - (j + 1))
          case measure => omega
          case rel =>
            obtain ⟨W1, hW1, hB1⟩ := impl_ClosingWith.back (d := d) HH0.out hbl HB0.out hds (by rw [← W2.out]; exact HB9.out)
            refine ⟨i + 1, j + 1, dk.setIfInBounds i u, W1, by go_num, by go_num, by omega, Nat.le_refl _, ?_, ⟨hB1⟩, ⟨?_⟩⟩
            · rw [hW1, putRow_set en _ blk off dk i u (by omega)]
            · have := I2.out.keep hlt (by rw [HK.out]; show (!p d[j]!) = true; rw [C.out, hq]; rfl)
              rwa [C.out] at this
        | true =>
          rw [hq] at hcall
          have HCC := Aside0.mk hcall
          clear hcall
          go_wp2_with ((refine HCC.out.mono ?_); rintro e w9 ⟨rfl, hb9⟩; have HB9 := Aside0.mk hb9; clear hb9)
          go_roundg (d.size - (j + 1))
          case measure => omega
          case rel =>
            obtain ⟨W1, hW1, hB1⟩ := impl_ClosingWith.back (d := d) HH0.out hbl HB0.out hds (by rw [← W2.out]; exact HB9.out)
            exact ⟨i, j + 1, dk, W1, rfl, by go_num, by omega, Nat.le_refl _, hW1, ⟨hB1⟩, ⟨I2.out.skip (by rw [HK.out]; show (!p d[j]!) = false; rw [C.out, hq]; rfl)⟩⟩
      · obtain rfl : j = d.size := by omega
        have hltz : ¬ (d.size : Int) < (d.size : Int) := by omega
        have hcl : ∀ ty, (Builtin.clear_ #[31] ty #[.slice (some ⟨blk, off + i, none⟩) (d.size - i) (cap - i)]).run Try.prog wr = .ok (.tuple #[]) (wr.setCells blk (off + i) (List.replicate (d.size - i) (en zr))) :=
          fun ty => Lib.run_clear_slice wr _ _ ty _ Try.underlying31 v23 (hO.cells zr) (hO zr) blk (off + i) _ _ (by omega) (fun t ht => by rw [show off + i + t = off + (i + t) by omega, (hHk (i + t) (by omega)).1]; rfl) (fun t ht => by rw [show off + i + t = off + (i + t) by omega]; exact (hHk (i + t) (by omega)).2)
        clear hHk hI hwr
        go_wp2
        go_ret
        have hI := I2.out
        refine ⟨by rw [hI.len]; rfl, W0, ?_, HB0.out⟩
        rw [hI.len, ← hI.done zr, ← putRow_setCells en _ blk off _ dk i (by simp; omega), ← W2.out, List.map_replicate]
end

theorem impl_ClosingWith.zero (w : World) : (zeroValue 25).run Try.prog w = .ok (.slice none 0 0) w := by
  have h : (Try.prog.info? 25).map (fun i => i.zero) = some (some (.slice none 0 0)) := by kernel_rfl
  obtain ⟨i, hi, hz⟩ := Option.map_eq_some_iff.1 h
  simp [zeroValue, typeInfo, hi, hz]
theorem impl_ClosingWith.good_nil {w : World} {g : Nat} (i : Nat) : slices_SortFunc_int_int.Good w g ((.slice none 0 0, []), i) := fun W _ => ⟨none, 0, rfl, Nat.le_refl _, Kd.C_nil (Kd.int .i64) W⟩
set_option maxHeartbeats 4000000 in
/-- slices.DeleteFunc at rows of numbers: the rows that stay, each still the call's own and apart from the others. -/
theorem impl_ClosingWith.deleteS (p : List Int → Bool) (gf : Nat) (lb : Array Value) (eg : ∀ args w, (callFunc gf args).run Try.prog w = .ok (.enter gf args) w) {w : World} {base : Nat} {ok : Nat → Prop} {v : Value} {xs : List (List Int)} (hS : Kd.S (Kd.slice 3 (Kd.int .i64)) 25 w base ok v xs) (hpos : 0 < xs.length) (hl : xs.length < 4611686018427387904)
    (hp : ∀ (W : World) (u : Value) (x : List Int), x ∈ xs → Below base w W → (Kd.slice 3 (Kd.int .i64)).K W x [u] → Calls Try.prog gf (#[u] ++ lb) W fun e w' => e = .returned (.bool (p x)) ∧ Below W.heap.size W w') :
    Calls Try.prog 73 #[v, .func (.func gf) #[] lb] w fun e w' => ∃ v', e = .returned v' ∧ Kd.S (Kd.slice 3 (Kd.int .i64)) 25 w' base ok v' (xs.filter fun x => !p x) ∧ w.grownBy w' v.ownBlock := by
  obtain ⟨f, hok, inner, ho, hr⟩ := hS
  have hsz : (Kd.tag f (Kd.slice 3 (Kd.int .i64))).sz = 1 := rfl
  rw [hsz] at ho hr
  rw [List.length_zipIdx] at ho
  rcases ho.2 with ⟨_, hz⟩ | ⟨g, cap, cur, rfl, hbg, hg, hncap, hcap, hcs, htake⟩
  · omega
  have hown : (Value.slice (some ⟨g, 0, none⟩) xs.length cap).ownBlock = some g := rfl
  rw [hown] at hok hr ⊢
  have hil : inner.length = xs.length := by have := hr.1; simpa using this
  have hM : ∀ (i : Nat) (u : Value) (x : List Int), inner[i]? = some u → xs[i]? = some x → (Kd.int .i64).R 3 w base (fun k => (ok k ∧ some k ≠ some g) ∧ f k = i) u x := by
    intro i u x hu hx
    have h1 := hr.2 i (x, i) (by rw [List.getElem?_zipIdx, hx]; simp)
    obtain ⟨hil', rfl⟩ := List.getElem?_eq_some_iff.1 hu
    rw [Nat.mul_one, List.drop_eq_getElem_cons hil', List.take_succ_cons, List.take_zero] at h1
    obtain ⟨v', e, h2⟩ := h1
    injection e with e
    rw [e]
    exact h2
  obtain ⟨L0, hL0⟩ : ∃ L0, L0 = (inner.zip xs).zipIdx := ⟨_, rfl⟩
  have hlen : L0.length = xs.length := by rw [hL0]; simp [hil]
  have hget : ∀ (p : (Value × List Int) × Nat), p ∈ L0 → inner[p.2]? = some p.1.1 ∧ xs[p.2]? = some p.1.2 := by
    intro p hp
    rw [hL0] at hp
    obtain ⟨i, hi⟩ := List.mem_iff_getElem?.1 hp
    rw [List.getElem?_zipIdx] at hi
    obtain ⟨q, hq, rfl⟩ := Option.map_eq_some_iff.1 hi
    rw [List.getElem?_zip_eq_some] at hq
    simpa using hq
  have hvals : L0.map (fun p => p.1.1) = inner := by
    have : L0.map (fun p => p.1.1) = ((inner.zip xs).zipIdx.map Prod.fst).map Prod.fst := by rw [hL0, List.map_map]; rfl
    rw [this, List.zipIdx_map_fst, List.map_fst_zip (by omega)]
  have hrows : L0.map (fun p => p.1.2) = xs := by
    have : L0.map (fun p => p.1.2) = ((inner.zip xs).zipIdx.map Prod.fst).map Prod.snd := by rw [hL0, List.map_map]; rfl
    rw [this, List.zipIdx_map_fst, List.map_snd_zip (by omega)]
  have hnod : (L0.map Prod.snd).Nodup := by
    rw [hL0, List.zipIdx_map_snd]
    exact List.nodup_range'
  have hgood : ∀ p ∈ L0, slices_SortFunc_int_int.Good w g p := by
    intro p hp
    obtain ⟨h1, h2⟩ := hget p hp
    have h3 := hM p.2 _ _ h1 h2
    exact Foot.mono (Kd.FK_of_M (d := Kd.slice 3 (Kd.int .i64)) (x := p.1.2) (c := [p.1.1]) ⟨_, rfl, h3⟩) (fun k hk => fun e => hk.1.2 (by rw [e]))
  have hgl : g < w.heap.size := (Array.getElem?_eq_some_iff.1 hg).1
  obtain ⟨L, hL⟩ : ∃ L : List {p // slices_SortFunc_int_int.Good w g p}, L.map Subtype.val = L0 := ⟨L0.attach.map (fun p => ⟨p.1, hgood p.1 p.2⟩), by rw [List.map_map]; exact List.attach_map_subtype_val L0⟩
  have hLl : L.length = xs.length := by rw [← hlen, ← hL, List.length_map]
  haveI : Inhabited {p // slices_SortFunc_int_int.Good w g p} := ⟨⟨((.slice none 0 0, []), 0), impl_ClosingWith.good_nil 0⟩⟩
  obtain ⟨en, hen⟩ : ∃ en : {p // slices_SortFunc_int_int.Good w g p} → Value, en = fun a => a.1.1.1 := ⟨_, rfl⟩
  obtain ⟨pp, hpp⟩ : ∃ pp : {p // slices_SortFunc_int_int.Good w g p} → Bool, pp = fun a => p a.1.1.2 := ⟨_, rfl⟩
  have hone : Go.Proofs.OneCell en := fun a => by rw [hen]; exact (Kd.slice 3 (Kd.int .i64)).K_one (Foot.now a.2) _ (List.mem_singleton.2 rfl)
  have hHolds : Go.Sort.Holds en w g 0 L.toArray := hold_of_block en hg (by
    rw [hLl, hen]
    have h1 : L.map (fun a : {p // slices_SortFunc_int_int.Good w g p} => a.1.1.1) = inner := by rw [← hvals, ← hL, List.map_map]; rfl
    rw [h1, ← htake, Nat.mul_one])
  have hold : ∀ (W1 : World) (d' : Array {p // slices_SortFunc_int_int.Good w g p}), Below w.heap.size w W1 → ∀ k, k < w.heap.size → k ≠ g → (Go.Sort.putRow en W1 g 0 d').heap[k]? = w.heap[k]? := by
    intro W1 d' hb k hk hne
    have hne' : g ≠ k := fun e => hne e.symm
    have : (Go.Sort.putRow en W1 g 0 d').heap[k]? = W1.heap[k]? := by
      simp [Go.Sort.putRow, Go.Sort.mapBlock, Array.getElem?_modify, hne']
    rw [this, hb.block k hk]
  have hcon := impl_ClosingWith.delete en hone pp gf lb eg ⟨((.slice none 0 0, []), 0), impl_ClosingWith.good_nil 0⟩ (fun w => by rw [hen]; exact impl_ClosingWith.zero w) g 0 cap L.toArray w (by
    intro W a dk ha hb hds
    have hK := a.2 (Go.Sort.putRow en W g 0 dk) (fun k hk hlt => hold W dk hb k hlt hk)
    have hmem : a.1.1.2 ∈ xs := by
      rw [← hrows, ← hL, List.map_map]
      exact List.mem_map.2 ⟨a, by simpa using ha, rfl⟩
    have h1 := hp (Go.Sort.putRow en W g 0 dk) (en a) a.1.1.2 hmem ⟨hb.os, hb.tape, hb.output, by rw [Go.Sort.size_putRow]; exact hb.size, fun k hk => hold W dk hb k (by omega) (by omega)⟩ (by rw [show en a = a.1.1.1 by rw [hen]]; exact hK)
    rw [show pp a = p a.1.1.2 by rw [hpp]]
    exact h1) hHolds hgl (by simp; omega) (by simpa [hLl, Nat.mul_one] using hncap)
  rw [show L.toArray.size = xs.length by simp [hLl]] at hcon
  refine hcon.mono ?_
  rintro e w' ⟨he, W1, rfl, hB⟩
  obtain ⟨L', hL'⟩ : ∃ L', L' = L.filter fun x => !pp x := ⟨_, rfl⟩
  have hxs : L.map (fun a => a.1.1.2) = xs := by rw [← hrows, ← hL, List.map_map]; rfl
  have hfil : L'.map (fun a => a.1.1.2) = xs.filter fun x => !p x := by
    rw [hL', ← hxs, List.filter_map, hpp]; rfl
  rw [List.toList_toArray, ← hL'] at he ⊢
  have hlen' : L'.length = (xs.filter fun x => !p x).length := by rw [← hfil, List.length_map]
  have hle : L'.length ≤ xs.length := by rw [hL', ← hLl]; exact List.length_filter_le _ _
  obtain ⟨d', hd'⟩ : ∃ d' : List {p // slices_SortFunc_int_int.Good w g p}, d' = L' ++ List.replicate (xs.length - L'.length) ⟨((.slice none 0 0, []), 0), impl_ClosingWith.good_nil 0⟩ := ⟨_, rfl⟩
  rw [← hd']
  have hdl : d'.length = xs.length := by rw [hd']; simp; omega
  have hg1 : W1.heap[g]? = some (.cells cur 25 (0, 0)) := (hB.block g hgl).trans hg
  have hg' : (Go.Sort.putRow en W1 g 0 d'.toArray).heap[g]? = some (.cells (Go.Sort.putCells en 0 d'.toArray cur) 25 (0, 0)) := by
    simp [Go.Sort.putRow, Go.Sort.mapBlock, Array.getElem?_modify, hg1, Go.Sort.onCells]
  have hcs0 : cur.size = cap := by rw [hcs, Nat.mul_one]
  have htk : (Go.Sort.putCells en 0 d'.toArray cur).toList.take L'.length = L'.map en := by
    have h1 := take_putC en cur d' (by rw [hdl, hcs0]; exact hncap)
    have h2 := congrArg (fun z => z.take L'.length) h1
    simp only [List.take_take] at h2
    rw [Nat.min_eq_left (by rw [hdl]; exact hle)] at h2
    rw [h2, hd', List.map_append, List.take_append_of_le_length (by simp), List.take_of_length_le (by simp)]
  have hnod' : (L'.map (fun a => a.1.2)).Nodup := by
    have h1 : (L.map (fun a => a.1.2)).Nodup := by
      have : L.map (fun a => a.1.2) = L0.map Prod.snd := by rw [← hL, List.map_map]; rfl
      rw [this]; exact hnod
    rw [hL']
    exact h1.sublist (List.filter_sublist.map _)
  refine ⟨_, he, ⟨fun k => (L'.map (fun a => a.1.2)).idxOf (f k), ?_⟩, ?_⟩
  · rw [hlen']
    refine ⟨hok, L'.map en, ⟨?_, .inr ⟨g, cap, Go.Sort.putCells en 0 d'.toArray cur, ?_, hbg, hg', ?_, hcap, ?_, ?_⟩⟩, ?_, ?_⟩
    · show (L'.map en).length = (xs.filter fun x => !p x).zipIdx.length * 1
      simp [hlen']
    · rw [List.length_zipIdx]
    · rw [List.length_zipIdx]; omega
    · exact (show (Go.Sort.putCells en 0 d'.toArray cur).size = cur.size by simp [Go.Sort.putCells]).trans hcs
    · show (Go.Sort.putCells en 0 d'.toArray cur).toList.take ((xs.filter fun x => !p x).zipIdx.length * 1) = _
      rw [List.length_zipIdx, Nat.mul_one, ← hlen']
      exact htk
    · show (L'.map en).length = (xs.filter fun x => !p x).zipIdx.length * 1
      simp [hlen']
    · intro i q hi
      rw [List.getElem?_zipIdx, ← hfil, List.getElem?_map] at hi
      obtain ⟨x, hx, rfl⟩ := Option.map_eq_some_iff.1 hi
      obtain ⟨a, ha, rfl⟩ := Option.map_eq_some_iff.1 hx
      obtain ⟨hil2, hae⟩ := List.getElem?_eq_some_iff.1 ha
      show ∃ v', ((L'.map en).drop (i * 1)).take 1 = [v'] ∧ _
      refine ⟨en a, by rw [Nat.mul_one, List.drop_eq_getElem_cons (by simpa using hil2)]; simp [hae], ?_⟩
      have hmem : a.1 ∈ L0 := by
        rw [← hL]
        have : a ∈ L' := List.mem_of_getElem? ha
        rw [hL'] at this
        exact List.mem_map.2 ⟨a, (List.mem_filter.1 this).1, rfl⟩
      obtain ⟨h1, h2⟩ := hget a.1 hmem
      have h3 := hM a.1.2 _ _ h1 h2
      have hidx : (L'.map (fun a => a.1.2)).idxOf a.1.2 = i := by
        have := hnod'.idxOf_getElem i (by simpa using hil2)
        rwa [List.getElem_map, hae] at this
      rw [show en a = a.1.1.1 by rw [hen]]
      refine Kd.R_mono (Kd.R_step h3 (fun k hk hlt => hold W1 d'.toArray hB k hlt (fun e => hk.1.2 (by rw [e])))) (fun k hk => ⟨?_, ?_⟩)
      · exact hk.1
      · show (L'.map (fun a => a.1.2)).idxOf (f k) = 0 + i
        rw [hk.2, hidx, Nat.zero_add]
  · refine ⟨hB.os, hB.tape, hB.output, by rw [Go.Sort.size_putRow]; exact hB.size, fun k hk hne => ?_⟩
    exact hold W1 d'.toArray hB k hk (fun e => hne (by rw [e]))

/-- The rows that a test keeps, where the test has a value at each. -/
def filtO (φ : List Int → Option Bool) : List (List Int) → Option (List (List Int))
  | [] => some []
  | x :: xs => (φ x).bind fun b => (filtO φ xs).bind fun ys => some (if b = true then x :: ys else ys)
theorem filtO_mono {φ ψ : List Int → Option Bool} (h : ∀ x, LeO (φ x) (ψ x)) : ∀ xs, LeO (filtO φ xs) (filtO ψ xs)
  | [] => LeO.refl _
  | x :: xs => LeO.bind (h x) (fun _ => LeO.bind (filtO_mono h xs) (fun _ => LeO.refl _))
theorem filtO_some {φ : List Int → Option Bool} : ∀ {xs ys}, filtO φ xs = some ys → ∃ p : List Int → Bool, (∀ x, x ∈ xs → φ x = some (p x)) ∧ ys = xs.filter p := by
  intro xs ys h
  refine ⟨fun x => (φ x).getD false, ?_⟩
  induction xs generalizing ys with
  | nil => exact ⟨fun x hx => by simp at hx, by simpa [filtO] using h.symm⟩
  | cons x xs ih =>
    obtain ⟨b, hb, h⟩ := Option.bind_eq_some_iff.1 h
    obtain ⟨zs, hz, h⟩ := Option.bind_eq_some_iff.1 h
    obtain ⟨h1, h2⟩ := ih hz
    injection h with h
    refine ⟨fun y hy => ?_, ?_⟩
    · rcases List.mem_cons.1 hy with rfl | hy
      · simp [hb]
      · exact h1 y hy
    · rw [← h, List.filter_cons, hb, h2]; rfl
def impl_ClosingWith.f (k : Nat) (l0 : List Int) : Option (List (List Int) × Bool) := (impl_IsSystem.f k l0).bind fun t => (if t = true then (if (l0.length : Int) = 0 then (some (([] : List (List Int)), false)) else ((impl_systems.f k (wrap64 ((l0.length : Int) / 2))).bind fun xs => (if 0 < xs.length ∧ xs.length < 4611686018427387904 then (filtO (fun q => impl_Meander_isOne.f k l0 q) xs).bind fun ys => (some (ys, true)) else none))) else (some (([] : List (List Int)), false)))
theorem impl_ClosingWith.mono : ∀ a0 k, LeO (impl_ClosingWith.f k a0) (impl_ClosingWith.f (k + 1) a0) := by
  intro a0 k
  unfold impl_ClosingWith.f
  refine LeO.bind (impl_IsSystem.mono a0 k) (fun t => LeO.ite (LeO.ite (LeO.refl _) (LeO.bind (impl_systems.mono _ k) (fun xs => LeO.ite (LeO.bind (filtO_mono (fun x => impl_Meander_isOne.mono a0 x k) xs) (fun _ => LeO.refl _)) (LeO.refl _)))) (LeO.refl _))
theorem impl_ClosingWith.clo (k : Nat) (A0_0 : Option Addr) (c0_0 : Nat) (l0_0 : List Int) (A0_1 : Option Addr) (c0_1 : Nat) (l0_1 : List Int) (gb : Nat) (r : Bool) (w : World) (hbox : w.cell? ⟨gb, 0, none⟩ = some (.slice A0_0 l0_0.length c0_0)) (hr0_0 : Kd.C (Kd.int .i64) w A0_0 l0_0.length l0_0) (hc0_0 : l0_0.length ≤ c0_0) (hr0_1 : Kd.C (Kd.int .i64) w A0_1 l0_1.length l0_1) (hc0_1 : l0_1.length ≤ c0_1) (h : impl_Meander_isOne.f k l0_0 l0_1 = some r) :
    Calls Try.prog 74 (#[.slice A0_1 l0_1.length c0_1] ++ #[.pointer (some ⟨gb, 0, none⟩)]) w fun e w' => e = .returned (.bool (!r)) ∧ Below w.heap.size w w' := by
  have HC := Aside0.mk (impl_Meander_isOne.calls k A0_0 c0_0 l0_0 A0_1 c0_1 l0_1 r w hr0_0 hc0_0 hr0_1 hc0_1 h)
  clear hr0_0 hc0_0 hr0_1 hc0_1 h
  have hu44 := Try.underlying44
  go_enter Try.func74, Try.ntmps74
  go_wp2_with (first | (go_at_call 75; refine HC.out.mono ?_; rintro e w' ⟨rfl, hb⟩; have HB := Aside0.mk hb; clear hb))
  go_ret
  exact ⟨rfl, HB.out⟩
set_option maxHeartbeats 8000000 in
theorem impl_ClosingWith.calls (k : Nat) (A0 : Option Addr) (c0 : Nat) (l0 : List Int) (r1 : List (List Int)) (r2 : Bool) (w : World) (hr0 : Kd.C (Kd.int .i64) w A0 l0.length l0) (hc0 : l0.length ≤ c0) (h : impl_ClosingWith.f k l0 = some (r1, r2)) :
    Calls Try.prog 49 #[.slice A0 l0.length c0] w fun e w' => ∃ v0_ : Value, e = .returned (.tuple #[v0_, .bool r2]) ∧ Kd.S (Kd.slice 3 (Kd.int .i64)) 25 w' w.heap.size (fun _ => True) v0_ r1 ∧ Below w.heap.size w w' := by
  have HR0 := Aside0.mk hr0
  have HC0 := Aside0.mk hc0
  clear hr0 hc0
  have HB := Aside0.mk (Below.refl w.heap.size w)
  have eg := fun args w => enters_ (P := Try.prog) Try.func74 (by kernel_rfl) rfl args w
  have HE := Aside0.mk eg
  clear eg
  obtain ⟨t, h1, h⟩ := Option.bind_eq_some_iff.1 h
  have HS := Aside0.mk (fun (w1 : World) (hr : Kd.C (Kd.int .i64) w1 A0 l0.length l0) => impl_IsSystem.calls k A0 c0 l0 t w1 hr HC0.out h1)
  clear h1
  cases t with
  | false =>
    rw [if_neg (by decide)] at h
    obtain ⟨rfl, rfl⟩ := Prod.mk.inj (Option.some.inj h)
    clear h
    go_enter Try.func49, Try.ntmps49
    go_wp2_with (first | (go_at_call 63; refine (HS.out _ (Kd.C_alloc HR0.out _)).mono ?_; rintro e w' ⟨rfl, ⟨nd, rfl⟩⟩))
    go_ret2
    exact ⟨_, rfl, Kd.S_nil _ _ _ _ _, by repeat (first | exact HB.out | apply below_alloc | apply pw_below_drewN | apply below_drew1)⟩
  | true =>
    rw [if_pos rfl] at h
    by_cases c4 : (l0.length : Int) = 0
    · rw [if_pos c4] at h
      have c4b0 : ((l0.length : Int) == 0) = true := beq_iff_eq.mpr c4
      clear c4
      obtain ⟨rfl, rfl⟩ := Prod.mk.inj (Option.some.inj h)
      clear h
      go_enter Try.func49, Try.ntmps49
      go_wp2_with (first | (go_at_call 63; refine (HS.out _ (Kd.C_alloc HR0.out _)).mono ?_; rintro e w' ⟨rfl, ⟨nd, rfl⟩⟩))
      go_ret2
      exact ⟨_, rfl, Kd.S_nil _ _ _ _ _, by repeat (first | exact HB.out | apply below_alloc | apply pw_below_drewN | apply below_drew1)⟩
    · rw [if_neg c4] at h
      have c4b0 : ((l0.length : Int) == 0) = false := beq_eq_false_iff_ne.mpr c4
      clear c4
      obtain ⟨xs, h2, h⟩ := Option.bind_eq_some_iff.1 h
      by_cases hx : 0 < xs.length ∧ xs.length < 4611686018427387904
      · rw [if_pos hx] at h
        obtain ⟨ys, h3, h⟩ := Option.bind_eq_some_iff.1 h
        obtain ⟨rfl, rfl⟩ := Prod.mk.inj (Option.some.inj h)
        obtain ⟨p, hp, rfl⟩ := filtO_some h3
        have HX := Aside0.mk hx
        have HP := Aside0.mk hp
        have HY := Aside0.mk (fun (w1 : World) => impl_systems.calls k (wrap64 ((l0.length : Int) / 2)) xs w1 h2)
        clear h h2 h3 hx hp
        go_enter Try.func49, Try.ntmps49
        go_wp2_with (first | (go_at_call 63; refine (HS.out _ (Kd.C_alloc HR0.out _)).mono ?_; rintro e w' ⟨rfl, ⟨nd, rfl⟩⟩) | (go_at_call 57; refine (HY.out _).mono ?_; rintro e w2 ⟨v2, rfl, ho, hb⟩; have HO := Aside0.mk ho; have HB2 := Aside0.mk hb; clear ho hb) | (go_at_call 73; refine (impl_ClosingWith.deleteS (fun x => !p x) 74 #[.pointer (some ⟨w.heap.size, 0, none⟩)] HE.out HO.out HX.out.1 HX.out.2 ?hp).mono ?_; (case hp => intro W u x hx hbW hK; have hb1 := HB2.out.trans hbW; have hb2 : Below w.heap.size w W := below_step (by repeat (first | exact HB.out | apply below_alloc | apply pw_below_drewN | apply below_drew1)) hb1; obtain ⟨A1, c1, e1, l1, r1⟩ := hK; (injection e1 with e1); rw [show u = .slice A1 x.length c1 from e1]; have hbx : W.cell? ⟨w.heap.size, 0, none⟩ = some (.slice A0 l0.length c0) := (by rw [hb1.cell (p := ⟨w.heap.size, 0, none⟩) (by simp)]; simp); exact impl_ClosingWith.clo k A0 c0 l0 A1 c1 x w.heap.size (p x) W hbx (Kd.C_below HR0.out hb2) HC0.out r1 l1 (HP.out x hx)); rintro e w3 ⟨v3, rfl, ho, hg⟩; have HO3 := Aside0.mk ho; have HG3 := Aside0.mk hg; clear ho hg))
        go_ret2
        have hb2 : Below w.heap.size w w2 := below_step (by repeat (first | exact HB.out | apply below_alloc | apply pw_below_drewN | apply below_drew1)) HB2.out
        have e5 : (xs.filter fun x => !(!p x)) = xs.filter p := by congr 1; funext x; simp
        refine ⟨_, rfl, ?_, ?_⟩
        · have h_ := HO3.out
          rw [e5] at h_
          exact Kd.S_lower h_ (by simp)
        · exact Below.grown hb2 HG3.out hb2.size (fun k_ h_ => by have := (Kd.S_base HO.out k_ h_); exact Nat.le_trans (by simp) this)
      · rw [if_neg hx] at h
        cases h

end Go.Proofs.Ytpepnlcelllhkaa.QFnExactClosingWith
