-- Written by wip/myprint.py (a program of mine round the kit's printer). Lean checks it.
import Derived.Test.YtoomehfmjgbbfaaQFnExactCurvesOfx0
import Derived.Test.YtoomehfmjgbbfaaQFnExactCurvesOfx1
import Derived.Test.YtoomehfmjgbbfaaQFnExactCurvesOfx3
import Derived.Test.YtoomehfmjgbbfaaQFnExactCurvesOfx5
namespace Go.Proofs.Ytoomehfmjgbbfaa.QFnExactCurvesOf
open Go.RowKit Go.Proofs.YtoomehfmjgbbfaaW.PrintWords Go.Proofs.YtoomehfmjgbbfaaW.PrintLast Go.Proofs.YtoomehfmjgbbfaaW.PrintMore
attribute [local go_sem] max2_int min2_int max_two min_two max_three min_three max_four min_four   -- for this text's walks alone
set_option linter.unusedVariables false
set_option linter.unusedSimpArgs false

/-! ### laws_heldIntS: function 25 -/
def laws_heldIntS.l0 : Nat → List Int → Int → Int → Option (Int)
  | 0, _, _, _ => none
  | k + 1, x0, x1, x5 => if x5 < (x0.length : Int) then (if 0 ≤ x5 then (if (rd x0 x5) = x1 then (laws_heldIntS.l0 k x0 (wrap64 (x1 + 1)) (wrap64 (x5 + 1))) else (some (-1))) else (none)) else (some x1)
def laws_heldIntS.f (k : Nat) (l0 : List Int) (a1 : Int) : Option (Int) := laws_heldIntS.l0 k l0 a1 0
theorem laws_heldIntS.mono_l : ∀ k, (∀ y0 y1 y2, LeO (laws_heldIntS.l0 k y0 y1 y2) (laws_heldIntS.l0 (k + 1) y0 y1 y2))
  | 0 => fun _ _ _ r h => by simp [laws_heldIntS.l0] at h
  | k + 1 => by
    have ih0 := laws_heldIntS.mono_l k
    · intro y0 y1 y2
      unfold laws_heldIntS.l0
      repeat' first
      | (with_reducible exact ih0 _ _ _)
      | (with_reducible exact LeO.refl _)
      | (with_reducible exact LeO.none _)
      | (with_reducible refine LeO.ite ?_ ?_)
      | (with_reducible refine LeO.bind ?_ (fun _ => ?_))
      | exact ih0 _ _ _
      | exact LeO.none _
      | refine LeO.ite ?_ ?_
      | refine LeO.bind ?_ (fun _ => ?_)
theorem laws_heldIntS.mono : ∀ a0 a1 k, LeO (laws_heldIntS.f k a0 a1) (laws_heldIntS.f (k + 1) a0 a1) := by
  intro a0 a1 k
  have ih0 := laws_heldIntS.mono_l k
  unfold laws_heldIntS.f
  repeat' first
      | (with_reducible exact ih0 _ _ _)
      | (with_reducible exact LeO.refl _)
      | (with_reducible exact LeO.none _)
      | (with_reducible refine LeO.ite ?_ ?_)
      | (with_reducible refine LeO.bind ?_ (fun _ => ?_))
      | exact ih0 _ _ _
      | exact LeO.none _
      | refine LeO.ite ?_ ?_
      | refine LeO.bind ?_ (fun _ => ?_)
set_option maxHeartbeats 3500000 in
set_option maxRecDepth 100000 in
theorem laws_heldIntS.calls (k : Nat) (A0 : Option Addr) (c0 : Nat) (l0 : List Int) (a1 : Int) (r : Int) (w : World) (hr0 : Kd.C (Kd.int .i64) w A0 l0.length l0) (hc0 : l0.length ≤ c0) (h : laws_heldIntS.f k l0 a1 = some r) :
    Calls Try.prog 25 #[.slice A0 l0.length c0, .int .i64 a1] w fun e w' => e = .returned (.int .i64 r) ∧ Drawn0 w w' := by
  have HR0 := Aside0.mk hr0
  have HC0 := Aside0.mk hc0
  clear hr0 hc0
  have H : (laws_heldIntS.l0 k l0 a1 0) = some r := h
  clear h
  have H' := Aside0.mk H
  clear H
  go_enter Try.func25, Try.ntmps25
  go_wp2
  go_loopg [1, 5] k (fun kq v1 v5 w' => ∃ (x1_1 : Int) (x5_1 : Int), v1 = .int .i64 x1_1 ∧ v5 = .int .i64 x5_1 ∧ Aside0 (laws_heldIntS.l0 kq l0 x1_1 x5_1 = some r) ∧ Aside0 (kq ≤ k) ∧ Drawn0 w w')
  case atStart => exact ⟨(a1), (0), (by first | rfl | (simp; done) | (simp [*]; done)), (by first | rfl | (simp; done) | (simp [*]; done)), H', ⟨Nat.le_refl _⟩, by repeat (first | exact Drawn0.refl _ | apply Drawn0.step)⟩
  case round =>
    clear H'
    try clear c2
    try clear p2
    obtain ⟨x1_1, x5_1, rfl, rfl, HA, HK1, ⟨m1, rfl⟩⟩ := hrel
    cases gk with
    | zero => exact absurd HA.out (by simp [laws_heldIntS.l0])
    | succ k1 =>
      have H := HA.out
      clear HA
      simp only [laws_heldIntS.l0] at H
      by_cases c3 : x5_1 < (l0.length : Int)
      · rw [if_pos c3] at H
        have c3b0 : decide (x5_1 < (l0.length : Int)) = true := decide_eq_true c3
        clear c3
        by_cases c4 : 0 ≤ x5_1
        · rw [if_pos c4] at H
          have c4b0 : decide (0 ≤ x5_1) = true := decide_eq_true c4
          clear c4
          by_cases c5 : (rd l0 x5_1) = x1_1
          · rw [if_pos c5] at H
            have c5b0 : ((rd l0 x5_1) == x1_1) = true := beq_iff_eq.mpr c5
            have c5b1 : ((rd l0 x5_1) != x1_1) = false := bne_eq_false_iff_eq.mpr c5
            clear c5
            have H' := Aside0.mk H
            clear H
            have p249 : 0 ≤ (x5_1 : Int) := of_decide_eq_true (by first | (with_reducible assumption) | assumption)
            have q249 : x5_1 < (l0.length : Int) := of_decide_eq_true (by first | (with_reducible assumption) | assumption)
            obtain ⟨ad249, e249, hx249_0⟩ := Kd.at_int HR0.out x5_1 p249 q249
            cases e249
            replace p249 := eq_true p249
            replace q249 := eq_true q249
            go_wp2
            go_roundg k1
            case measure => have := HK1.out; omega
            case rel => exact ⟨(wrap64 (x1_1 + 1)), (wrap64 (x5_1 + 1)), (by first | rfl | (simp; done) | (simp [*]; done)), (by first | rfl | (simp; done) | (simp [*]; done)), H', ⟨by have := HK1.out; omega⟩, by repeat (first | exact Drawn0.refl _ | apply Drawn0.step)⟩
          · rw [if_neg c5] at H
            have c5b0 : ((rd l0 x5_1) == x1_1) = false := beq_eq_false_iff_ne.mpr c5
            have c5b1 : ((rd l0 x5_1) != x1_1) = true := bne_iff_ne.mpr c5
            obtain rfl := Option.some.inj H
            have p249 : 0 ≤ (x5_1 : Int) := of_decide_eq_true (by first | (with_reducible assumption) | assumption)
            have q249 : x5_1 < (l0.length : Int) := of_decide_eq_true (by first | (with_reducible assumption) | assumption)
            obtain ⟨ad249, e249, hx249_0⟩ := Kd.at_int HR0.out x5_1 p249 q249
            cases e249
            replace p249 := eq_true p249
            replace q249 := eq_true q249
            go_wp2
            go_ret
            exact ⟨by first | rfl | (simp; done) | (simp [*]; done), by repeat (first | exact Drawn0.refl _ | apply Drawn0.step)⟩
        · rw [if_neg c4] at H
          exact absurd H (by simp)
      · rw [if_neg c3] at H
        have c3b0 : decide (x5_1 < (l0.length : Int)) = false := decide_eq_false c3
        clear c3
        obtain rfl := Option.some.inj H
        go_wp2
        go_ret
        exact ⟨by first | rfl | (simp; done) | (simp [*]; done), by repeat (first | exact Drawn0.refl _ | apply Drawn0.step)⟩

/-! ### laws_heldIntSS: function 47 -/
def laws_heldIntSS.l0 : Nat → List (List Int) → Int → Int → Option (Int)
  | 0, _, _, _ => none
  | k + 1, x0, x1, x5 => if x5 < (x0.length : Int) then (if 0 ≤ x5 then ((laws_heldIntS.f k (rd_L1 x0 x5) x1).bind fun t251 => (if t251 < 0 then (some (-1)) else (laws_heldIntSS.l0 k x0 t251 (wrap64 (x5 + 1))))) else (none)) else (some x1)
def laws_heldIntSS.f (k : Nat) (l0 : List (List Int)) (a1 : Int) : Option (Int) := laws_heldIntSS.l0 k l0 a1 0
theorem laws_heldIntSS.mono_l : ∀ k, (∀ y0 y1 y2, LeO (laws_heldIntSS.l0 k y0 y1 y2) (laws_heldIntSS.l0 (k + 1) y0 y1 y2))
  | 0 => fun _ _ _ r h => by simp [laws_heldIntSS.l0] at h
  | k + 1 => by
    have ih0 := laws_heldIntSS.mono_l k
    · intro y0 y1 y2
      unfold laws_heldIntSS.l0
      repeat' first
      | (with_reducible exact ih0 _ _ _)
      | (with_reducible exact laws_heldIntS.mono _ _ _)
      | (with_reducible exact LeO.refl _)
      | (with_reducible exact LeO.none _)
      | (with_reducible refine LeO.ite ?_ ?_)
      | (with_reducible refine LeO.bind ?_ (fun _ => ?_))
      | exact ih0 _ _ _
      | exact laws_heldIntS.mono _ _ _
      | exact LeO.none _
      | refine LeO.ite ?_ ?_
      | refine LeO.bind ?_ (fun _ => ?_)
theorem laws_heldIntSS.mono : ∀ a0 a1 k, LeO (laws_heldIntSS.f k a0 a1) (laws_heldIntSS.f (k + 1) a0 a1) := by
  intro a0 a1 k
  have ih0 := laws_heldIntSS.mono_l k
  unfold laws_heldIntSS.f
  repeat' first
      | (with_reducible exact ih0 _ _ _)
      | (with_reducible exact laws_heldIntS.mono _ _ _)
      | (with_reducible exact LeO.refl _)
      | (with_reducible exact LeO.none _)
      | (with_reducible refine LeO.ite ?_ ?_)
      | (with_reducible refine LeO.bind ?_ (fun _ => ?_))
      | exact ih0 _ _ _
      | exact laws_heldIntS.mono _ _ _
      | exact LeO.none _
      | refine LeO.ite ?_ ?_
      | refine LeO.bind ?_ (fun _ => ?_)
set_option maxHeartbeats 3500000 in
set_option maxRecDepth 100000 in
theorem laws_heldIntSS.calls (k : Nat) (A0 : Option Addr) (c0 : Nat) (l0 : List (List Int)) (a1 : Int) (r : Int) (w : World) (hr0 : Kd.C (Kd.slice 3 (Kd.int .i64)) w A0 l0.length l0) (hc0 : l0.length ≤ c0) (h : laws_heldIntSS.f k l0 a1 = some r) :
    Calls Try.prog 47 #[.slice A0 l0.length c0, .int .i64 a1] w fun e w' => e = .returned (.int .i64 r) ∧ Drawn0 w w' := by
  have HR0 := Aside0.mk hr0
  have HC0 := Aside0.mk hc0
  clear hr0 hc0
  have H : (laws_heldIntSS.l0 k l0 a1 0) = some r := h
  clear h
  have H' := Aside0.mk H
  clear H
  go_enter Try.func47, Try.ntmps47
  go_wp2
  go_loopg [1, 5] k (fun kq v1 v5 w' => ∃ (x1_1 : Int) (x5_1 : Int), v1 = .int .i64 x1_1 ∧ v5 = .int .i64 x5_1 ∧ Aside0 (laws_heldIntSS.l0 kq l0 x1_1 x5_1 = some r) ∧ Aside0 (kq ≤ k) ∧ Drawn0 w w')
  case atStart => exact ⟨(a1), (0), (by first | rfl | (simp; done) | (simp [*]; done)), (by first | rfl | (simp; done) | (simp [*]; done)), H', ⟨Nat.le_refl _⟩, by repeat (first | exact Drawn0.refl _ | apply Drawn0.step)⟩
  case round =>
    clear H'
    try clear p2
    obtain ⟨x1_1, x5_1, rfl, rfl, HA, HK1, ⟨m1, rfl⟩⟩ := hrel
    cases gk with
    | zero => exact absurd HA.out (by simp [laws_heldIntSS.l0])
    | succ k1 =>
      have H := HA.out
      clear HA
      simp only [laws_heldIntSS.l0] at H
      by_cases c3 : x5_1 < (l0.length : Int)
      · rw [if_pos c3] at H
        have c3b0 : decide (x5_1 < (l0.length : Int)) = true := decide_eq_true c3
        clear c3
        by_cases c4 : 0 ≤ x5_1
        · rw [if_pos c4] at H
          have c4b0 : decide (0 ≤ x5_1) = true := decide_eq_true c4
          clear c4
          replace H := Option.bind_eq_some_iff.mp H
          obtain ⟨t251, A50, H⟩ := H
          replace H : (if t251 < 0 then (some (-1)) else (laws_heldIntSS.l0 k1 l0 t251 (wrap64 (x5_1 + 1)))) = some r := H
          have A5 := Aside0.mk A50
          clear A50
          by_cases c6 : t251 < 0
          · rw [if_pos c6] at H
            have c6b0 : decide (t251 < 0) = true := decide_eq_true c6
            clear c6
            obtain rfl := Option.some.inj H
            have p250 : 0 ≤ (x5_1 : Int) := of_decide_eq_true (by first | (with_reducible assumption) | assumption)
            have q250 : x5_1 < (l0.length : Int) := of_decide_eq_true (by first | (with_reducible assumption) | assumption)
            obtain ⟨ad250, A250_0, c250_0, e250, hx250_0, hl250_0, hi250_0⟩ := at_L1 HR0.out x5_1 p250 q250
            cases e250
            have HR250_0 := Aside0.mk hi250_0
            have HC250_0 := Aside0.mk hl250_0
            clear hi250_0 hl250_0
            replace p250 := eq_true p250
            replace q250 := eq_true q250
            go_wp2_with (first | ((with_reducible refine gate_callee (f := 25) rfl ?_); refine goesL_ (some 17) rfl rfl Try.func25 (by kernel_rfl) rfl #[.slice A250_0 (rd_L1 l0 x5_1).length c250_0, .int .i64 x1_1] rfl (by (try simp only [List.map_toArray, List.map_cons, List.map_nil]); first | done | rfl | (simp only [List.length_drop, List.length_take]; rfl)) ?_; (with_reducible refine (laws_heldIntS.calls k1 _ _ (rd_L1 l0 x5_1) x1_1 t251 _ ?side1 ?side2 A5.out).mono ?_); (case side1 => repeat (first | exact HR250_0.out | (with_reducible refine Kd.C_alloc ?_ _) | (with_reducible refine Kd.C_drewN ?_ _) | (with_reducible refine Kd.C_drew ?_))); (case side2 => exact HC250_0.out); rintro e w' ⟨rfl, ⟨nd, rfl⟩⟩; refine ⟨_, rfl, ?_⟩))
            go_ret
            exact ⟨by first | rfl | (simp; done) | (simp [*]; done), by repeat (first | exact Drawn0.refl _ | apply Drawn0.step)⟩
          · rw [if_neg c6] at H
            have c6b0 : decide (t251 < 0) = false := decide_eq_false c6
            clear c6
            have H' := Aside0.mk H
            clear H
            have p250 : 0 ≤ (x5_1 : Int) := of_decide_eq_true (by first | (with_reducible assumption) | assumption)
            have q250 : x5_1 < (l0.length : Int) := of_decide_eq_true (by first | (with_reducible assumption) | assumption)
            obtain ⟨ad250, A250_0, c250_0, e250, hx250_0, hl250_0, hi250_0⟩ := at_L1 HR0.out x5_1 p250 q250
            cases e250
            have HR250_0 := Aside0.mk hi250_0
            have HC250_0 := Aside0.mk hl250_0
            clear hi250_0 hl250_0
            replace p250 := eq_true p250
            replace q250 := eq_true q250
            go_wp2_with (first | ((with_reducible refine gate_callee (f := 25) rfl ?_); refine goesL_ (some 17) rfl rfl Try.func25 (by kernel_rfl) rfl #[.slice A250_0 (rd_L1 l0 x5_1).length c250_0, .int .i64 x1_1] rfl (by (try simp only [List.map_toArray, List.map_cons, List.map_nil]); first | done | rfl | (simp only [List.length_drop, List.length_take]; rfl)) ?_; (with_reducible refine (laws_heldIntS.calls k1 _ _ (rd_L1 l0 x5_1) x1_1 t251 _ ?side1 ?side2 A5.out).mono ?_); (case side1 => repeat (first | exact HR250_0.out | (with_reducible refine Kd.C_alloc ?_ _) | (with_reducible refine Kd.C_drewN ?_ _) | (with_reducible refine Kd.C_drew ?_))); (case side2 => exact HC250_0.out); rintro e w' ⟨rfl, ⟨nd, rfl⟩⟩; refine ⟨_, rfl, ?_⟩))
            go_roundg k1
            case measure => have := HK1.out; omega
            case rel => exact ⟨(t251), (wrap64 (x5_1 + 1)), (by first | rfl | (simp; done) | (simp [*]; done)), (by first | rfl | (simp; done) | (simp [*]; done)), H', ⟨by have := HK1.out; omega⟩, by repeat (first | exact Drawn0.refl _ | apply Drawn0.step)⟩
        · rw [if_neg c4] at H
          exact absurd H (by simp)
      · rw [if_neg c3] at H
        have c3b0 : decide (x5_1 < (l0.length : Int)) = false := decide_eq_false c3
        clear c3
        obtain rfl := Option.some.inj H
        go_wp2
        go_ret
        exact ⟨by first | rfl | (simp; done) | (simp [*]; done), by repeat (first | exact Drawn0.refl _ | apply Drawn0.step)⟩

/-! ### laws_FnExactCurvesOf: function 13 (by hand) -/
def laws_FnExactCurvesOf.Told (l0_0 l0_1 : List Int) : Prop := ∃ r : Int, laws_szMeander.f l0_0 l0_1 1048576 = some r ∧ (r < 0 ∨ (0 ≤ r ∧ ∃ (k : Nat) (R R' : List (List Int)) (b : Bool) (p : Int) (y z : List Int) (q : Int), laws_toMeander.f k l0_0 l0_1 = some (l0_0, l0_1) ∧ spec_CurvesOf.f k l0_0 l0_1 = some (R, b) ∧ impl_CurvesOf.f k l0_0 l0_1 = some (R, b) ∧ laws_eqIntSS.f k R R = some true ∧ laws_eqMeander.f k l0_0 l0_1 l0_0 l0_1 = some true ∧ laws_markMeander.f k l0_0 l0_1 1 = some (p, y, z) ∧ 0 ≤ p ∧ laws_markIntSS.f k R 1 = some (q, R') ∧ laws_heldIntSS.f k R' 1 = some q ∧ 0 ≤ q))
set_option maxHeartbeats 3500000 in
set_option maxRecDepth 100000 in
theorem laws_FnExactCurvesOf.calls (A0_0 : Option Addr) (c0_0 : Nat) (l0_0 : List Int) (A0_1 : Option Addr) (c0_1 : Nat) (l0_1 : List Int) (w : World) (hr0_0 : Kd.C (Kd.int .i64) w A0_0 l0_0.length l0_0) (hc0_0 : l0_0.length ≤ c0_0) (hr0_1 : Kd.C (Kd.int .i64) w A0_1 l0_1.length l0_1) (hc0_1 : l0_1.length ≤ c0_1) (h : laws_FnExactCurvesOf.Told l0_0 l0_1) :
    Calls Try.prog 13 #[.agg #[.slice A0_0 l0_0.length c0_0, .slice A0_1 l0_1.length c0_1]] w fun e w' => e = .returned (.bool true) ∧ Below w.heap.size w w' := by
  have hu1 := Try.underlying24
  have hu2 := Try.underlying28
  have HR0_0 := Aside0.mk hr0_0
  have HC0_0 := Aside0.mk hc0_0
  have HR0_1 := Aside0.mk hr0_1
  have HC0_1 := Aside0.mk hc0_1
  clear hr0_0 hc0_0 hr0_1 hc0_1
  have HB := Aside0.mk (Below.refl w.heap.size w)
  obtain ⟨r, h0, h⟩ := h
  have A0 := Aside0.mk h0
  clear h0
  by_cases c3 : r < 0
  · have c3b0 : decide (r < 0) = true := decide_eq_true c3
    clear c3 h
    go_enter Try.func13, Try.ntmps13
    go_wp2_with (first | ((with_reducible refine gate_dst (N := 1) rfl ?_); refine box_event ?hg (N := 1) ?hd (cs := #[.slice A0_0 l0_0.length c0_0, .slice A0_1 l0_1.length c0_1]) (t := 24) ?hr ?_; (case hd => rfl); (case hg => rfl); (case hr => first | (go_simp; done) | (go_simp; rfl)); intro gm hg w1 hbox hb; have n0_ := Aside0.mk (hbox); have n1_ := Aside0.mk (below_step HB.out hb); clear HB; have BM := n0_; have HB := n1_; clear n0_ n1_; clear hb hbox; have GM := Aside0.mk hg; clear hg; have hcm0 := (blk_cell BM.out 0).trans (show _ = some (Value.slice A0_0 l0_0.length c0_0) from rfl); have hcm1 := (blk_cell BM.out 1).trans (show _ = some (Value.slice A0_1 l0_1.length c0_1) from rfl); have hfm0 := blk_frozen BM.out 0; have hfm1 := blk_frozen BM.out 1) | ((with_reducible refine gate_callee (f := 15) rfl ?_); refine goesL_ (some 16) rfl rfl Try.func15 (by kernel_rfl) rfl #[.agg #[.slice A0_0 l0_0.length c0_0, .slice A0_1 l0_1.length c0_1], .int .i64 1048576] rfl (by (try simp only [List.map_toArray, List.map_cons, List.map_nil]); first | done | rfl) ?_; (refine (laws_szMeander.calls _ _ l0_0 _ _ l0_1 1048576 r _ (Kd.C_below HR0_0.out (by repeat (first | (with_reducible first | exact HB.out | apply below_alloc | apply pw_below_drewN | apply below_drew1) | exact HB.out))) HC0_0.out (Kd.C_below HR0_1.out (by repeat (first | (with_reducible first | exact HB.out | apply below_alloc | apply pw_below_drewN | apply below_drew1) | exact HB.out))) HC0_1.out A0.out).mono ?_); rintro e w2 ⟨rfl, hb⟩; refine ⟨_, rfl, ?_⟩; have n0_ := Aside0.mk (blk_below (by (with_reducible repeat (first | refine blk_drewN ?_ _ | refine blk_drew ?_ | refine blk_alloc ?_ _)); exact BM.out) hb); have n1_ := Aside0.mk (below_step (by repeat (first | (with_reducible first | exact HB.out | apply below_alloc | apply pw_below_drewN | apply below_drew1) | exact HB.out)) hb); clear BM HB; have BM := n0_; have HB := n1_; clear n0_ n1_; clear hb hcm0 hcm1 hfm0 hfm1; have hcm0 := (blk_cell BM.out 0).trans (show _ = some (Value.slice A0_0 l0_0.length c0_0) from rfl); have hcm1 := (blk_cell BM.out 1).trans (show _ = some (Value.slice A0_1 l0_1.length c0_1) from rfl)))
    go_ret
    exact ⟨rfl, (by repeat (first | (with_reducible first | exact HB.out | apply below_alloc | apply pw_below_drewN | apply below_drew1) | exact HB.out))⟩
  · have c3b0 : decide (r < 0) = false := decide_eq_false c3
    obtain ⟨k, R, R', b, p, y, z, q, h1, h2, h3, h4, h5, h6, h7, h8, h9, h10⟩ := (h.resolve_left c3).2
    have A1 := Aside0.mk h1
    have A2 := Aside0.mk h2
    have A3 := Aside0.mk h3
    have A4 := Aside0.mk h4
    have A5 := Aside0.mk h5
    have A6 := Aside0.mk h6
    have A8 := Aside0.mk h8
    have A9 := Aside0.mk h9
    have c7b0 : decide (p < 0) = false := decide_eq_false (by omega)
    have c10b0 : decide (q < 0) = false := decide_eq_false (by omega)
    clear c3 h h1 h2 h3 h4 h5 h6 h7 h8 h9 h10
    go_enter Try.func13, Try.ntmps13
    go_upto_region 5 with (first | ((with_reducible refine gate_dst (N := 1) rfl ?_); refine box_event ?hg (N := 1) ?hd (cs := #[.slice A0_0 l0_0.length c0_0, .slice A0_1 l0_1.length c0_1]) (t := 24) ?hr ?_; (case hd => rfl); (case hg => rfl); (case hr => first | (go_simp; done) | (go_simp; rfl)); intro gm hg w1 hbox hb; have n0_ := Aside0.mk (hbox); have n1_ := Aside0.mk (below_step HB.out hb); clear HB; have BM := n0_; have HB := n1_; clear n0_ n1_; clear hb hbox; have GM := Aside0.mk hg; clear hg; have hcm0 := (blk_cell BM.out 0).trans (show _ = some (Value.slice A0_0 l0_0.length c0_0) from rfl); have hcm1 := (blk_cell BM.out 1).trans (show _ = some (Value.slice A0_1 l0_1.length c0_1) from rfl); have hfm0 := blk_frozen BM.out 0; have hfm1 := blk_frozen BM.out 1) | ((with_reducible refine gate_callee (f := 15) rfl ?_); refine goesL_ (some 16) rfl rfl Try.func15 (by kernel_rfl) rfl #[.agg #[.slice A0_0 l0_0.length c0_0, .slice A0_1 l0_1.length c0_1], .int .i64 1048576] rfl (by (try simp only [List.map_toArray, List.map_cons, List.map_nil]); first | done | rfl) ?_; (refine (laws_szMeander.calls _ _ l0_0 _ _ l0_1 1048576 r _ (Kd.C_below HR0_0.out (by repeat (first | (with_reducible first | exact HB.out | apply below_alloc | apply pw_below_drewN | apply below_drew1) | exact HB.out))) HC0_0.out (Kd.C_below HR0_1.out (by repeat (first | (with_reducible first | exact HB.out | apply below_alloc | apply pw_below_drewN | apply below_drew1) | exact HB.out))) HC0_1.out A0.out).mono ?_); rintro e w2 ⟨rfl, hb⟩; refine ⟨_, rfl, ?_⟩; have n0_ := Aside0.mk (blk_below (by (with_reducible repeat (first | refine blk_drewN ?_ _ | refine blk_drew ?_ | refine blk_alloc ?_ _)); exact BM.out) hb); have n1_ := Aside0.mk (below_step (by repeat (first | (with_reducible first | exact HB.out | apply below_alloc | apply pw_below_drewN | apply below_drew1) | exact HB.out)) hb); clear BM HB; have BM := n0_; have HB := n1_; clear n0_ n1_; clear hb hcm0 hcm1 hfm0 hfm1; have hcm0 := (blk_cell BM.out 0).trans (show _ = some (Value.slice A0_0 l0_0.length c0_0) from rfl); have hcm1 := (blk_cell BM.out 1).trans (show _ = some (Value.slice A0_1 l0_1.length c0_1) from rfl)))
    (try simp only [Act.put, List.setIfInBounds_toArray, List.set_cons_zero, List.set_cons_succ])
    clear hcm0 hcm1
    have hcm0 := (blk_cell BM.out 0).trans (show _ = some (Value.slice A0_0 l0_0.length c0_0) from rfl)
    have hcm1 := (blk_cell BM.out 1).trans (show _ = some (Value.slice A0_1 l0_1.length c0_1) from rfl)
    go_upto_region 7 with (first | ((with_reducible refine gate_callee (f := 17) rfl ?_); refine goesL_ (some 21) rfl rfl Try.func17 (by kernel_rfl) rfl #[.agg #[.slice A0_0 l0_0.length c0_0, .slice A0_1 l0_1.length c0_1]] rfl (by (try simp only [List.map_toArray, List.map_cons, List.map_nil]); first | done | rfl) ?_; (refine (laws_toMeander.calls k _ _ l0_0 _ _ l0_1 l0_0 l0_1 _ (Kd.C_below HR0_0.out (by repeat (first | (with_reducible first | exact HB.out | apply below_alloc | apply pw_below_drewN | apply below_drew1) | exact HB.out))) HC0_0.out (Kd.C_below HR0_1.out (by repeat (first | (with_reducible first | exact HB.out | apply below_alloc | apply pw_below_drewN | apply below_drew1) | exact HB.out))) HC0_1.out A1.out).mono ?_); rintro e w3 ⟨v0a, v1a, rfl, ho0, ho1, hb⟩; refine ⟨_, rfl, ?_⟩; have n0_ := Aside0.mk (blk_below (by (with_reducible repeat (first | refine blk_drewN ?_ _ | refine blk_drew ?_ | refine blk_alloc ?_ _)); exact BM.out) hb); have n1_ := Aside0.mk (below_step (by repeat (first | (with_reducible first | exact HB.out | apply below_alloc | apply pw_below_drewN | apply below_drew1) | exact HB.out)) hb); have n2_ := Aside0.mk (ho0); have n3_ := Aside0.mk (ho1); clear BM HB; have BM := n0_; have HB := n1_; have HX0 := n2_; have HX1 := n3_; clear n0_ n1_ n2_ n3_; clear ho0 ho1 hb; clear hcm0 hcm1; have hcm0 := (blk_cell BM.out 0).trans (show _ = some (Value.slice A0_0 l0_0.length c0_0) from rfl); have hcm1 := (blk_cell BM.out 1).trans (show _ = some (Value.slice A0_1 l0_1.length c0_1) from rfl); obtain ⟨Ax0, cx0, ex0⟩ := Kd.R_slice HX0.out; subst ex0; obtain ⟨Ax1, cx1, ex1⟩ := Kd.R_slice HX1.out; subst ex1) | ((with_reducible refine gate_callee (f := 43) rfl ?_); refine goesL_ (some 22) rfl rfl Try.func43 (by kernel_rfl) rfl #[.agg #[.slice Ax0 l0_0.length cx0, .slice Ax1 l0_1.length cx1]] rfl (by (try simp only [List.map_toArray, List.map_cons, List.map_nil]); first | done | rfl) ?_; (refine (spec_CurvesOf.calls k _ _ l0_0 _ _ l0_1 R b _ (Kd.R_reads' HX0.out).2.2 (Kd.R_reads' HX0.out).2.1 (Kd.R_reads' HX1.out).2.2 (Kd.R_reads' HX1.out).2.1 A2.out).mono ?_); rintro e w4 ⟨vw, rfl, ho, hb⟩; refine ⟨_, rfl, ?_⟩; have n0_ := Aside0.mk (blk_below (by (with_reducible repeat (first | refine blk_drewN ?_ _ | refine blk_drew ?_ | refine blk_alloc ?_ _)); exact BM.out) hb); have n1_ := Aside0.mk (below_step (by repeat (first | (with_reducible first | exact HB.out | apply below_alloc | apply pw_below_drewN | apply below_drew1) | exact HB.out)) hb); have n2_ := Aside0.mk (Kd.S_mono (ok' := fun k_ => k_ < w4.heap.size) (Kd.S_bound (Kd.S_lower ho (below_size (by repeat (first | (with_reducible first | exact HB.out | apply below_alloc | apply pw_below_drewN | apply below_drew1) | exact HB.out))))) (fun k_ hk_ => hk_.2.2.1)); clear BM HB; have BM := n0_; have HB := n1_; have HW := n2_; clear n0_ n1_ n2_; clear ho hb HX0 HX1; have GMU := Aside0.mk (blk_lt BM.out); clear hcm0 hcm1; have hcm0 := (blk_cell BM.out 0).trans (show _ = some (Value.slice A0_0 l0_0.length c0_0) from rfl); have hcm1 := (blk_cell BM.out 1).trans (show _ = some (Value.slice A0_1 l0_1.length c0_1) from rfl)) | ((with_reducible refine gate_callee (f := 17) rfl ?_); refine goesL_ (some 26) rfl rfl Try.func17 (by kernel_rfl) rfl #[.agg #[.slice A0_0 l0_0.length c0_0, .slice A0_1 l0_1.length c0_1]] rfl (by (try simp only [List.map_toArray, List.map_cons, List.map_nil]); first | done | rfl) ?_; (refine (laws_toMeander.calls k _ _ l0_0 _ _ l0_1 l0_0 l0_1 _ (Kd.C_below HR0_0.out (by repeat (first | (with_reducible first | exact HB.out | apply below_alloc | apply pw_below_drewN | apply below_drew1) | exact HB.out))) HC0_0.out (Kd.C_below HR0_1.out (by repeat (first | (with_reducible first | exact HB.out | apply below_alloc | apply pw_below_drewN | apply below_drew1) | exact HB.out))) HC0_1.out A1.out).mono ?_); rintro e w5 ⟨v0y, v1y, rfl, ho0, ho1, hb⟩; refine ⟨_, rfl, ?_⟩; have n0_ := Aside0.mk (blk_below (by (with_reducible repeat (first | refine blk_drewN ?_ _ | refine blk_drew ?_ | refine blk_alloc ?_ _)); exact BM.out) hb); have n1_ := Aside0.mk (Kd.S_below (by (with_reducible repeat (first | apply Kd.S_alloc | apply Kd.S_drewN | apply Kd.S_drew)); exact HW.out) hb); have n2_ := Aside0.mk (below_step (by repeat (first | (with_reducible first | exact HB.out | apply below_alloc | apply pw_below_drewN | apply below_drew1) | exact HB.out)) hb); have n3_ := Aside0.mk (Kd.R_mono (ok' := fun k_ => (w4.heap.size ≤ k_ ∧ k_ < w5.heap.size) ∧ some k_ ≠ v1y.ownBlock) (Kd.R_bound (Kd.R_lower (Kd.R_mono (Kd.R_bound ho0) (fun k_ hk_ => (⟨hk_.2.1, hk_.1⟩ : _ ∧ _))) (below_size (by repeat (first | (with_reducible first | exact HB.out | apply below_alloc | apply pw_below_drewN | apply below_drew1) | exact HB.out))))) (fun k_ hk_ => ⟨⟨hk_.1.1, hk_.2.2.1⟩, hk_.1.2⟩)); have n4_ := Aside0.mk (Kd.R_mono (ok' := fun k_ => (w4.heap.size ≤ k_ ∧ k_ < w5.heap.size) ∧ some k_ ≠ v0y.ownBlock) (Kd.R_bound (Kd.R_lower (Kd.R_mono (Kd.R_bound ho1) (fun k_ hk_ => (⟨hk_.2.1, hk_.1⟩ : _ ∧ _))) (below_size (by repeat (first | (with_reducible first | exact HB.out | apply below_alloc | apply pw_below_drewN | apply below_drew1) | exact HB.out))))) (fun k_ hk_ => ⟨⟨hk_.1.1, hk_.2.2.1⟩, hk_.1.2⟩)); clear BM HW HB; have BM := n0_; have HW := n1_; have HB := n2_; have HY0 := n3_; have HY1 := n4_; clear n0_ n1_ n2_ n3_ n4_; clear ho0 ho1 hb; clear hcm0 hcm1; have hcm0 := (blk_cell BM.out 0).trans (show _ = some (Value.slice A0_0 l0_0.length c0_0) from rfl); have hcm1 := (blk_cell BM.out 1).trans (show _ = some (Value.slice A0_1 l0_1.length c0_1) from rfl); obtain ⟨Ay0, cy0, ey0⟩ := Kd.R_slice HY0.out; subst ey0; obtain ⟨Ay1, cy1, ey1⟩ := Kd.R_slice HY1.out; subst ey1))
    (try simp only [Act.put, List.setIfInBounds_toArray, List.set_cons_zero, List.set_cons_succ])
    have BY : Aside0 ((w5.alloc (.cells #[.slice Ay0 l0_0.length cy0, .slice Ay1 l0_1.length cy1] 28)).heap[w5.heap.size]? = some (.cells #[.slice Ay0 l0_0.length cy0, .slice Ay1 l0_1.length cy1] 28 (0, 0))) := ⟨blk_new w5 _⟩
    have hb : Below w5.heap.size w5 (w5.alloc (.cells #[.slice Ay0 l0_0.length cy0, .slice Ay1 l0_1.length cy1] 28)) := below_alloc (Below.refl _ _) _
    have n0_ := Aside0.mk (blk_below (by (with_reducible repeat (first | refine blk_drewN ?_ _ | refine blk_drew ?_ | refine blk_alloc ?_ _)); exact BM.out) hb); have n1_ := Aside0.mk (Kd.S_below (by (with_reducible repeat (first | apply Kd.S_alloc | apply Kd.S_drewN | apply Kd.S_drew)); exact HW.out) hb); have n2_ := Aside0.mk (Kd.R_below (by (with_reducible repeat (first | apply Kd.R_alloc | apply Kd.R_drewN | apply Kd.R_drew)); exact HY0.out) hb); have n3_ := Aside0.mk (Kd.R_below (by (with_reducible repeat (first | apply Kd.R_alloc | apply Kd.R_drewN | apply Kd.R_drew)); exact HY1.out) hb); have n4_ := Aside0.mk (below_step (by repeat (first | (with_reducible first | exact HB.out | apply below_alloc | apply pw_below_drewN | apply below_drew1) | exact HB.out)) hb); clear BM HW HY0 HY1 HB; have BM := n0_; have HW := n1_; have HY0 := n2_; have HY1 := n3_; have HB := n4_; clear n0_ n1_ n2_ n3_ n4_
    clear hb hcm0 hcm1
    generalize w5.alloc (.cells #[.slice Ay0 l0_0.length cy0, .slice Ay1 l0_1.length cy1] 28) = w6 at BM HW HY0 HY1 BY HB ⊢
    have GYU := Aside0.mk (blk_lt BY.out)
    have GM6 := Aside0.mk (blk_lt BM.out)
    have hw6 := Aside0.mk (Kd.S_mono (ok' := fun k_ => k_ < w4.heap.size ∧ k_ < w6.heap.size) (Kd.S_bound HW.out) (fun k_ hk_ => ⟨hk_.1, hk_.2.2.1⟩))
    clear HW
    have HW := hw6
    clear hw6
    generalize w5.heap.size = gy at HY0 HY1 BY GYU ⊢
    have hcm0 := (blk_cell BM.out 0).trans (show _ = some (Value.slice A0_0 l0_0.length c0_0) from rfl); have hcm1 := (blk_cell BM.out 1).trans (show _ = some (Value.slice A0_1 l0_1.length c0_1) from rfl); have hcy0 := (blk_cell BY.out 0).trans (show _ = some (Value.slice Ay0 l0_0.length cy0) from rfl); have hcy1 := (blk_cell BY.out 1).trans (show _ = some (Value.slice Ay1 l0_1.length cy1) from rfl)
    obtain ⟨Aw, cw, ew⟩ := Kd.S_slice HW.out
    subst ew
    go_upto_region 10 with (first | ((with_reducible refine gate_callee (f := 44) rfl ?_); refine goesL_ (some 29) rfl rfl Try.func44 (by kernel_rfl) rfl #[.agg #[.slice Ay0 l0_0.length cy0, .slice Ay1 l0_1.length cy1]] rfl (by (try simp only [List.map_toArray, List.map_cons, List.map_nil]); first | done | rfl) ?_; (refine (impl_CurvesOf.calls k _ _ l0_0 _ _ l0_1 R b _ (Kd.R_reads' HY0.out).2.2 (Kd.R_reads' HY0.out).2.1 (Kd.R_reads' HY1.out).2.2 (Kd.R_reads' HY1.out).2.1 A3.out).mono ?_); rintro e w7 ⟨vg, rfl, ho, hb⟩; refine ⟨_, rfl, ?_⟩; have n0_ := Aside0.mk (blk_below (by (with_reducible repeat (first | refine blk_drewN ?_ _ | refine blk_drew ?_ | refine blk_alloc ?_ _)); exact BM.out) hb); have n1_ := Aside0.mk (blk_below (by (with_reducible repeat (first | refine blk_drewN ?_ _ | refine blk_drew ?_ | refine blk_alloc ?_ _)); exact BY.out) hb); have n2_ := Aside0.mk (Kd.S_below (by (with_reducible repeat (first | apply Kd.S_alloc | apply Kd.S_drewN | apply Kd.S_drew)); exact HW.out) hb); have n3_ := Aside0.mk (Kd.R_below (by (with_reducible repeat (first | apply Kd.R_alloc | apply Kd.R_drewN | apply Kd.R_drew)); exact HY0.out) hb); have n4_ := Aside0.mk (Kd.R_below (by (with_reducible repeat (first | apply Kd.R_alloc | apply Kd.R_drewN | apply Kd.R_drew)); exact HY1.out) hb); have n5_ := Aside0.mk (below_step (by repeat (first | (with_reducible first | exact HB.out | apply below_alloc | apply pw_below_drewN | apply below_drew1) | exact HB.out)) hb); have n6_ := Aside0.mk (Kd.S_mono (ok' := fun k_ => w6.heap.size ≤ k_) (Kd.S_bound (Kd.S_lower (Kd.S_mono (Kd.S_bound ho) (fun k_ hk_ => hk_.2.1)) (below_size (by repeat (first | (with_reducible first | exact HB.out | apply below_alloc | apply pw_below_drewN | apply below_drew1) | exact HB.out))))) (fun k_ hk_ => hk_.1)); clear BM BY HW HY0 HY1 HB; have BM := n0_; have BY := n1_; have HW := n2_; have HY0 := n3_; have HY1 := n4_; have HB := n5_; have HG := n6_; clear n0_ n1_ n2_ n3_ n4_ n5_ n6_; clear ho hb; clear hcm0 hcm1 hcy0 hcy1; have hcm0 := (blk_cell BM.out 0).trans (show _ = some (Value.slice A0_0 l0_0.length c0_0) from rfl); have hcm1 := (blk_cell BM.out 1).trans (show _ = some (Value.slice A0_1 l0_1.length c0_1) from rfl); have hcy0 := (blk_cell BY.out 0).trans (show _ = some (Value.slice Ay0 l0_0.length cy0) from rfl); have hcy1 := (blk_cell BY.out 1).trans (show _ = some (Value.slice Ay1 l0_1.length cy1) from rfl); obtain ⟨Ag, cg, eg⟩ := Kd.S_slice HG.out; subst eg) | ((with_reducible refine gate_callee (f := 45) rfl ?_); refine goesL_ (some 34) rfl rfl Try.func45 (by kernel_rfl) rfl #[.slice Ag R.length cg, .slice Aw R.length cw] rfl (by (try simp only [List.map_toArray, List.map_cons, List.map_nil]); first | done | rfl) ?_; (refine (laws_eqIntSS.calls k _ _ R _ _ R true _ (Kd.S_reads' HG.out).2.2 (Kd.S_reads' HG.out).2.1 (Kd.S_reads' HW.out).2.2 (Kd.S_reads' HW.out).2.1 A4.out).mono ?_); rintro e w' ⟨rfl, ⟨nd, rfl⟩⟩; refine ⟨_, rfl, ?_⟩; skip))
    (try simp only [Act.put, List.setIfInBounds_toArray, List.set_cons_zero, List.set_cons_succ])
    have n0_ := Aside0.mk (blk_drewN BM.out nd); have n1_ := Aside0.mk (blk_drewN BY.out nd); have n2_ := Aside0.mk (Kd.S_drewN HW.out nd); have n3_ := Aside0.mk (Kd.R_drewN HY0.out nd); have n4_ := Aside0.mk (Kd.R_drewN HY1.out nd); have n5_ := Aside0.mk (Kd.S_drewN HG.out nd); have n6_ := Aside0.mk (pw_below_drewN HB.out nd); clear BM BY HW HY0 HY1 HG HB; have BM := n0_; have BY := n1_; have HW := n2_; have HY0 := n3_; have HY1 := n4_; have HG := n5_; have HB := n6_; clear n0_ n1_ n2_ n3_ n4_ n5_ n6_
    clear hcm0 hcm1 hcy0 hcy1
    generalize w7.drewN nd = w8 at BM BY HW HY0 HY1 HG HB ⊢
    try go_wp2
    have n0_ := Aside0.mk (blk_drew BM.out); have n1_ := Aside0.mk (blk_drew BY.out); have n2_ := Aside0.mk (Kd.S_drew HW.out); have n3_ := Aside0.mk (Kd.R_drew HY0.out); have n4_ := Aside0.mk (Kd.R_drew HY1.out); have n5_ := Aside0.mk (Kd.S_drew HG.out); have n6_ := Aside0.mk (below_drew1 HB.out); clear BM BY HW HY0 HY1 HG HB; have BM := n0_; have BY := n1_; have HW := n2_; have HY0 := n3_; have HY1 := n4_; have HG := n5_; have HB := n6_; clear n0_ n1_ n2_ n3_ n4_ n5_ n6_
    refine start_ (n := 5) (S := fun w' => w'.cell? ⟨gy, 0, none⟩ = some (.slice Ay0 l0_0.length cy0) ∧ w'.cell? ⟨gy, 1, none⟩ = some (.slice Ay1 l0_1.length cy1) ∧ w'.cell? ⟨gm, 0, none⟩ = some (.slice A0_0 l0_0.length c0_0) ∧ w'.cell? ⟨gm, 1, none⟩ = some (.slice A0_1 l0_1.length c0_1)) (ds := []) #[false, false, false, false, false] (by kernel_rfl) rfl rfl ⟨(blk_cell BY.out 0).trans rfl, (blk_cell BY.out 1).trans rfl, (blk_cell BM.out 0).trans rfl, (blk_cell BM.out 1).trans rfl⟩ (fun hHeld => ?_)
    generalize w8.drew = w9 at BM BY HW HY0 HY1 HG HB hHeld ⊢
    refine take_ (i := 0) (N := some 41) (v := ?_) (a' := ?_) #[true, false, false, false, false] rfl rfl (by kernel_rfl) (fun _ _ _ h => h) (Or.inl ⟨by rfl, ?_⟩) hHeld ?_ ?_
    rotate_left
    · rintro w' ⟨s0, s1, s2, s3⟩
      go_simp
      with_reducible rfl
    rotate_left
    · simp only [Act.put, List.setIfInBounds_toArray, List.set_cons_zero, List.set_cons_succ, i64_w, i32_w]
      rfl
    refine take_ (i := 1) (N := some 42) (v := ?_) (a' := ?_) #[true, true, false, false, false] rfl rfl (by kernel_rfl) (fun _ _ _ h => h) (Or.inl ⟨by rfl, ?_⟩) hHeld ?_ ?_
    rotate_left
    · rintro w' ⟨s0, s1, s2, s3⟩
      go_simp
      with_reducible rfl
    rotate_left
    · simp only [Act.put, List.setIfInBounds_toArray, List.set_cons_zero, List.set_cons_succ, i64_w, i32_w]
      rfl
    refine one_ (i := 2) (N := some 43) #[true, true, true, false, false] rfl rfl (by kernel_rfl) (by decide) (fun K hK => ?_)
    refine goes_ Try.func17 (by kernel_rfl) rfl #[.agg #[.slice A0_0 l0_0.length c0_0, .slice A0_1 l0_1.length c0_1]] (by rfl) rfl rfl (by (try simp only [List.map_toArray, List.map_cons, List.map_nil]); first | done | rfl) ?_
    refine (laws_toMeander.calls k _ _ l0_0 _ _ l0_1 l0_0 l0_1 _ (Kd.C_below HR0_0.out (by repeat (first | (with_reducible first | exact HB.out | apply below_alloc | apply pw_below_drewN | apply below_drew1) | exact HB.out))) HC0_0.out (Kd.C_below HR0_1.out (by repeat (first | (with_reducible first | exact HB.out | apply below_alloc | apply pw_below_drewN | apply below_drew1) | exact HB.out))) HC0_1.out A1.out).mono ?_
    rintro e w10 ⟨v0h, v1h, rfl, ho0, ho1, hb⟩
    refine ⟨_, rfl, ?_⟩
    have n0_ := Aside0.mk (blk_below (by (with_reducible repeat (first | refine blk_drewN ?_ _ | refine blk_drew ?_ | refine blk_alloc ?_ _)); exact BM.out) hb); have n1_ := Aside0.mk (blk_below (by (with_reducible repeat (first | refine blk_drewN ?_ _ | refine blk_drew ?_ | refine blk_alloc ?_ _)); exact BY.out) hb); have n2_ := Aside0.mk (Kd.S_below (by (with_reducible repeat (first | apply Kd.S_alloc | apply Kd.S_drewN | apply Kd.S_drew)); exact HW.out) hb); have n3_ := Aside0.mk (Kd.R_below (by (with_reducible repeat (first | apply Kd.R_alloc | apply Kd.R_drewN | apply Kd.R_drew)); exact HY0.out) hb); have n4_ := Aside0.mk (Kd.R_below (by (with_reducible repeat (first | apply Kd.R_alloc | apply Kd.R_drewN | apply Kd.R_drew)); exact HY1.out) hb); have n5_ := Aside0.mk (Kd.S_below (by (with_reducible repeat (first | apply Kd.S_alloc | apply Kd.S_drewN | apply Kd.S_drew)); exact HG.out) hb); have n6_ := Aside0.mk (below_step (by repeat (first | (with_reducible first | exact HB.out | apply below_alloc | apply pw_below_drewN | apply below_drew1) | exact HB.out)) hb); have n7_ := Aside0.mk (ho0); have n8_ := Aside0.mk (ho1); clear BM BY HW HY0 HY1 HG HB; have BM := n0_; have BY := n1_; have HW := n2_; have HY0 := n3_; have HY1 := n4_; have HG := n5_; have HB := n6_; have HH0 := n7_; have HH1 := n8_; clear n0_ n1_ n2_ n3_ n4_ n5_ n6_ n7_ n8_
    clear ho0 ho1 hb
    obtain ⟨Ah0, ch0, eh0⟩ := Kd.R_slice HH0.out
    subst eh0
    obtain ⟨Ah1, ch1, eh1⟩ := Kd.R_slice HH1.out
    subst eh1
    refine hK.out _ _ ⟨(blk_cell BY.out 0).trans rfl, (blk_cell BY.out 1).trans rfl, (blk_cell BM.out 0).trans rfl, (blk_cell BM.out 1).trans rfl⟩ (fun hHeld => ?_)
    refine norm_ (a' := ?_) ?_ ?_
    rotate_left
    · show Act.put _ (some 43) _ = _
      simp only [Act.put, List.setIfInBounds_toArray, List.set_cons_zero, List.set_cons_succ, i64_w, i32_w]
      rfl
    refine one_ (i := 3) (N := some 44) #[true, true, true, true, false] rfl rfl (by kernel_rfl) (by decide) (fun K hK => ?_)
    refine goes_ Try.func19 (by kernel_rfl) rfl #[.agg #[.slice Ay0 l0_0.length cy0, .slice Ay1 l0_1.length cy1], .agg #[.slice Ah0 l0_0.length ch0, .slice Ah1 l0_1.length ch1]] (by rfl) rfl rfl (by (try simp only [List.map_toArray, List.map_cons, List.map_nil]); first | done | rfl) ?_
    refine (laws_eqMeander.calls k _ _ l0_0 _ _ l0_1 _ _ l0_0 _ _ l0_1 true _ (Kd.R_reads' HY0.out).2.2 (Kd.R_reads' HY0.out).2.1 (Kd.R_reads' HY1.out).2.2 (Kd.R_reads' HY1.out).2.1 (Kd.R_reads' HH0.out).2.2 (Kd.R_reads' HH0.out).2.1 (Kd.R_reads' HH1.out).2.2 (Kd.R_reads' HH1.out).2.1 A5.out).mono ?_
    rintro e w11 ⟨rfl, hb⟩
    refine ⟨_, rfl, ?_⟩
    have n0_ := Aside0.mk (blk_below (by (with_reducible repeat (first | refine blk_drewN ?_ _ | refine blk_drew ?_ | refine blk_alloc ?_ _)); exact BM.out) hb); have n1_ := Aside0.mk (blk_below (by (with_reducible repeat (first | refine blk_drewN ?_ _ | refine blk_drew ?_ | refine blk_alloc ?_ _)); exact BY.out) hb); have n2_ := Aside0.mk (Kd.S_below (by (with_reducible repeat (first | apply Kd.S_alloc | apply Kd.S_drewN | apply Kd.S_drew)); exact HW.out) hb); have n3_ := Aside0.mk (Kd.R_below (by (with_reducible repeat (first | apply Kd.R_alloc | apply Kd.R_drewN | apply Kd.R_drew)); exact HY0.out) hb); have n4_ := Aside0.mk (Kd.R_below (by (with_reducible repeat (first | apply Kd.R_alloc | apply Kd.R_drewN | apply Kd.R_drew)); exact HY1.out) hb); have n5_ := Aside0.mk (Kd.S_below (by (with_reducible repeat (first | apply Kd.S_alloc | apply Kd.S_drewN | apply Kd.S_drew)); exact HG.out) hb); have n6_ := Aside0.mk (below_step (by repeat (first | (with_reducible first | exact HB.out | apply below_alloc | apply pw_below_drewN | apply below_drew1) | exact HB.out)) hb); clear BM BY HW HY0 HY1 HG HB; have BM := n0_; have BY := n1_; have HW := n2_; have HY0 := n3_; have HY1 := n4_; have HG := n5_; have HB := n6_; clear n0_ n1_ n2_ n3_ n4_ n5_ n6_
    clear hb HH0 HH1
    refine hK.out _ _ ⟨(blk_cell BY.out 0).trans rfl, (blk_cell BY.out 1).trans rfl, (blk_cell BM.out 0).trans rfl, (blk_cell BM.out 1).trans rfl⟩ (fun hHeld => ?_)
    refine norm_ (a' := ?_) ?_ ?_
    rotate_left
    · show Act.put _ (some 44) _ = _
      simp only [Act.put, List.setIfInBounds_toArray, List.set_cons_zero, List.set_cons_succ, i64_w, i32_w]
      rfl
    refine pure_ (i := 4) (N := some 45) (v := ?_) (a' := ?_) #[true, true, true, true, true] rfl rfl (by kernel_rfl) (fun _ _ _ h => h) (Or.inl ⟨by rfl, ?_⟩) ?_ ?_
    rotate_left
    · intro w'
      go_simp
      with_reducible rfl
    rotate_left
    · simp only [Act.put, List.setIfInBounds_toArray, List.set_cons_zero, List.set_cons_succ, i64_w, i32_w]
      rfl
    refine done_ (by kernel_rfl) ?_
    have hcm0 := (blk_cell BM.out 0).trans (show _ = some (Value.slice A0_0 l0_0.length c0_0) from rfl); have hcm1 := (blk_cell BM.out 1).trans (show _ = some (Value.slice A0_1 l0_1.length c0_1) from rfl); have hcy0 := (blk_cell BY.out 0).trans (show _ = some (Value.slice Ay0 l0_0.length cy0) from rfl); have hcy1 := (blk_cell BY.out 1).trans (show _ = some (Value.slice Ay1 l0_1.length cy1) from rfl)
    go_upto_region 14 with (first | ((with_reducible refine gate_callee (f := 23) rfl ?_); refine goesL_ (some 48) rfl rfl Try.func23 (by kernel_rfl) rfl #[.agg #[.slice Ay0 l0_0.length cy0, .slice Ay1 l0_1.length cy1], .int .i64 1] rfl (by (try simp only [List.map_toArray, List.map_cons, List.map_nil]); first | done | rfl) ?_; (refine (laws_markMeander.calls k (fun k_ => some k_ = (.slice Ay0 l0_0.length cy0 : Value).ownBlock) _ l0_0 (fun k_ => some k_ = (.slice Ay1 l0_1.length cy1 : Value).ownBlock) _ l0_1 1 p y z w _ HB.out (Kd.R_tight rfl HY0.out) (fun k_ e1_ e2_ => (HY0.out.1 k_ e1_.symm).2 e2_) (Kd.R_tight rfl HY1.out) (fun k_ e1_ e2_ => (HY1.out.1 k_ e1_.symm).2 e2_) A6.out).mono ?_); rintro e w12 ⟨rfl, ho0, ho1, hb, hk⟩; refine ⟨_, rfl, ?_⟩; have n0_ := Aside0.mk (blk_kept BM.out hk (fun hs_ => hs_.elim (fun e_ => by have h1_ := (HY0.out.1 _ e_.symm).1; have h2_ := GMU.out; omega) (fun e_ => by have h1_ := (HY1.out.1 _ e_.symm).1; have h2_ := GMU.out; omega))); have n1_ := Aside0.mk (Kd.S_step HW.out (fun k_ hk_ hlt_ => hk.2 k_ hlt_ (fun hs_ => hs_.elim (fun e_ => by have h1_ := (HY0.out.1 _ e_.symm).1; have h2_ := hk_.1; omega) (fun e_ => by have h1_ := (HY1.out.1 _ e_.symm).1; have h2_ := hk_.1; omega)))); have n2_ := Aside0.mk (Kd.S_step HG.out (fun k_ hk_ hlt_ => hk.2 k_ hlt_ (fun hs_ => hs_.elim (fun e_ => by have h1_ := (HY0.out.1 _ e_.symm).1; have h2_ := GYU.out; omega) (fun e_ => by have h1_ := (HY1.out.1 _ e_.symm).1; have h2_ := GYU.out; omega)))); have n3_ := Aside0.mk (hb); clear BM HW HG HB; have BM := n0_; have HW := n1_; have HG := n2_; have HB := n3_; clear n0_ n1_ n2_ n3_; clear ho0 ho1 hb hk BY HY0 HY1 hcm0 hcm1 hcy0 hcy1))
    (try simp only [Act.put, List.setIfInBounds_toArray, List.set_cons_zero, List.set_cons_succ])
    have hcm0 := (blk_cell BM.out 0).trans (show _ = some (Value.slice A0_0 l0_0.length c0_0) from rfl); have hcm1 := (blk_cell BM.out 1).trans (show _ = some (Value.slice A0_1 l0_1.length c0_1) from rfl)
    go_upto_region 17 with (first | (go_at_call 45; (refine (laws_eqIntSS.calls k _ _ R _ _ R true _ (Kd.S_reads' HG.out).2.2 (Kd.S_reads' HG.out).2.1 (Kd.S_reads' HW.out).2.2 (Kd.S_reads' HW.out).2.1 A4.out).mono ?_); rintro e w' ⟨rfl, ⟨nd2, rfl⟩⟩))
    (try simp only [Act.put, List.setIfInBounds_toArray, List.set_cons_zero, List.set_cons_succ])
    have n0_ := Aside0.mk (blk_drewN BM.out nd2); have n1_ := Aside0.mk (Kd.S_drewN HW.out nd2); have n2_ := Aside0.mk (Kd.S_drewN HG.out nd2); have n3_ := Aside0.mk (pw_below_drewN HB.out nd2); clear BM HW HG HB; have BM := n0_; have HW := n1_; have HG := n2_; have HB := n3_; clear n0_ n1_ n2_ n3_
    clear hcm0 hcm1
    generalize w12.drewN nd2 = w13 at BM HW HG HB ⊢
    have hcm0 := (blk_cell BM.out 0).trans (show _ = some (Value.slice A0_0 l0_0.length c0_0) from rfl); have hcm1 := (blk_cell BM.out 1).trans (show _ = some (Value.slice A0_1 l0_1.length c0_1) from rfl)
    go_upto_region 19 with (first | ((with_reducible refine gate_callee (f := 46) rfl ?_); refine goesL_ (some 64) rfl rfl Try.func46 (by kernel_rfl) rfl #[.slice Ag R.length cg, .int .i64 1] rfl (by (try simp only [List.map_toArray, List.map_cons, List.map_nil]); first | done | rfl) ?_; (refine (laws_markIntSS.calls k (fun k_ => w6.heap.size ≤ k_) _ R 1 q R' w _ HB.out HG.out A8.out).mono ?_); rintro e w14 ⟨rfl, ho, hb, hk⟩; refine ⟨_, rfl, ?_⟩; have n0_ := Aside0.mk (blk_kept BM.out hk (Nat.not_le.2 GM6.out)); have n1_ := Aside0.mk (Kd.S_step HW.out (fun k_ hk_ hlt_ => hk.2 k_ hlt_ (Nat.not_le.2 hk_.2))); have n2_ := Aside0.mk (ho); have n3_ := Aside0.mk (hb); clear BM HW HG HB; have BM := n0_; have HW := n1_; have HG := n2_; have HB := n3_; clear n0_ n1_ n2_ n3_; clear ho hb hk hcm0 hcm1; have hcm0 := (blk_cell BM.out 0).trans (show _ = some (Value.slice A0_0 l0_0.length c0_0) from rfl); have hcm1 := (blk_cell BM.out 1).trans (show _ = some (Value.slice A0_1 l0_1.length c0_1) from rfl)))
    (try simp only [Act.put, List.setIfInBounds_toArray, List.set_cons_zero, List.set_cons_succ])
    have hl_ : R.length = R'.length := (Kd.S_reads' HG.out).1
    have HL_ := Aside0.mk hl_.symm
    clear hl_
    have HH := Aside0.mk (fun (W : World) (hc : Kd.C (Kd.slice 3 (Kd.int .i64)) W Ag R'.length R') => (show Calls Try.prog 47 #[.slice Ag R.length cg, .int .i64 1] W fun e w' => e = .returned (.int .i64 q) ∧ Drawn0 W w' from by have h_ := laws_heldIntSS.calls k Ag cg R' 1 q W hc (by rw [HL_.out]; exact (Kd.S_reads' HG.out).2.1) A9.out; rw [HL_.out] at h_; exact h_))
    go_upto_region 24 with (first | ((with_reducible refine gate_callee (f := 47) rfl ?_); refine goesL_ (some 67) rfl rfl Try.func47 (by kernel_rfl) rfl #[.slice Ag R.length cg, .int .i64 1] rfl (by (try simp only [List.map_toArray, List.map_cons, List.map_nil]); first | done | rfl) ?_; (refine (HH.out _ (by have h_ := (Kd.S_reads' HG.out).2.2; exact h_)).mono ?_); rintro e w' ⟨rfl, ⟨nd3, rfl⟩⟩; refine ⟨_, rfl, ?_⟩; skip))
    (try simp only [Act.put, List.setIfInBounds_toArray, List.set_cons_zero, List.set_cons_succ])
    have n0_ := Aside0.mk (blk_drewN BM.out nd3); have n1_ := Aside0.mk (Kd.S_drewN HW.out nd3); have n2_ := Aside0.mk (Kd.S_drewN HG.out nd3); have n3_ := Aside0.mk (pw_below_drewN HB.out nd3); clear BM HW HG HB; have BM := n0_; have HW := n1_; have HG := n2_; have HB := n3_; clear n0_ n1_ n2_ n3_
    clear hcm0 hcm1
    generalize w14.drewN nd3 = w15 at BM HW HG HB ⊢
    have hcm0 := (blk_cell BM.out 0).trans (show _ = some (Value.slice A0_0 l0_0.length c0_0) from rfl); have hcm1 := (blk_cell BM.out 1).trans (show _ = some (Value.slice A0_1 l0_1.length c0_1) from rfl)
    go_upto_region 25 with (first | ((with_reducible refine gate_callee (f := 17) rfl ?_); refine goesL_ (some 75) rfl rfl Try.func17 (by kernel_rfl) rfl #[.agg #[.slice A0_0 l0_0.length c0_0, .slice A0_1 l0_1.length c0_1]] rfl (by (try simp only [List.map_toArray, List.map_cons, List.map_nil]); first | done | rfl) ?_; (refine (laws_toMeander.calls k _ _ l0_0 _ _ l0_1 l0_0 l0_1 _ (Kd.C_below HR0_0.out (by repeat (first | (with_reducible first | exact HB.out | apply below_alloc | apply pw_below_drewN | apply below_drew1) | exact HB.out))) HC0_0.out (Kd.C_below HR0_1.out (by repeat (first | (with_reducible first | exact HB.out | apply below_alloc | apply pw_below_drewN | apply below_drew1) | exact HB.out))) HC0_1.out A1.out).mono ?_); rintro e w16 ⟨v0z, v1z, rfl, ho0, ho1, hb⟩; refine ⟨_, rfl, ?_⟩; have n0_ := Aside0.mk (blk_below (by (with_reducible repeat (first | refine blk_drewN ?_ _ | refine blk_drew ?_ | refine blk_alloc ?_ _)); exact BM.out) hb); have n1_ := Aside0.mk (Kd.S_below (by (with_reducible repeat (first | apply Kd.S_alloc | apply Kd.S_drewN | apply Kd.S_drew)); exact HW.out) hb); have n2_ := Aside0.mk (Kd.S_below (by (with_reducible repeat (first | apply Kd.S_alloc | apply Kd.S_drewN | apply Kd.S_drew)); exact HG.out) hb); have n3_ := Aside0.mk (below_step (by repeat (first | (with_reducible first | exact HB.out | apply below_alloc | apply pw_below_drewN | apply below_drew1) | exact HB.out)) hb); have n4_ := Aside0.mk (ho0); have n5_ := Aside0.mk (ho1); clear BM HW HG HB; have BM := n0_; have HW := n1_; have HG := n2_; have HB := n3_; have HZ0 := n4_; have HZ1 := n5_; clear n0_ n1_ n2_ n3_ n4_ n5_; clear ho0 ho1 hb hcm0 hcm1; have hcm0 := (blk_cell BM.out 0).trans (show _ = some (Value.slice A0_0 l0_0.length c0_0) from rfl); have hcm1 := (blk_cell BM.out 1).trans (show _ = some (Value.slice A0_1 l0_1.length c0_1) from rfl); obtain ⟨Az0, cz0, ez0⟩ := Kd.R_slice HZ0.out; subst ez0; obtain ⟨Az1, cz1, ez1⟩ := Kd.R_slice HZ1.out; subst ez1) | ((with_reducible refine gate_callee (f := 44) rfl ?_); refine goesL_ (some 76) rfl rfl Try.func44 (by kernel_rfl) rfl #[.agg #[.slice Az0 l0_0.length cz0, .slice Az1 l0_1.length cz1]] rfl (by (try simp only [List.map_toArray, List.map_cons, List.map_nil]); first | done | rfl) ?_; (refine (impl_CurvesOf.calls k _ _ l0_0 _ _ l0_1 R b _ (Kd.R_reads' HZ0.out).2.2 (Kd.R_reads' HZ0.out).2.1 (Kd.R_reads' HZ1.out).2.2 (Kd.R_reads' HZ1.out).2.1 A3.out).mono ?_); rintro e w17 ⟨vn, rfl, ho, hb⟩; refine ⟨_, rfl, ?_⟩; have n0_ := Aside0.mk (blk_below (by (with_reducible repeat (first | refine blk_drewN ?_ _ | refine blk_drew ?_ | refine blk_alloc ?_ _)); exact BM.out) hb); have n1_ := Aside0.mk (Kd.S_below (by (with_reducible repeat (first | apply Kd.S_alloc | apply Kd.S_drewN | apply Kd.S_drew)); exact HW.out) hb); have n2_ := Aside0.mk (Kd.S_below (by (with_reducible repeat (first | apply Kd.S_alloc | apply Kd.S_drewN | apply Kd.S_drew)); exact HG.out) hb); have n3_ := Aside0.mk (below_step (by repeat (first | (with_reducible first | exact HB.out | apply below_alloc | apply pw_below_drewN | apply below_drew1) | exact HB.out)) hb); have n4_ := Aside0.mk (ho); clear BM HW HG HB; have BM := n0_; have HW := n1_; have HG := n2_; have HB := n3_; have HN := n4_; clear n0_ n1_ n2_ n3_ n4_; clear ho hb HZ0 HZ1 hcm0 hcm1; have hcm0 := (blk_cell BM.out 0).trans (show _ = some (Value.slice A0_0 l0_0.length c0_0) from rfl); have hcm1 := (blk_cell BM.out 1).trans (show _ = some (Value.slice A0_1 l0_1.length c0_1) from rfl); obtain ⟨An, cn, en⟩ := Kd.S_slice HN.out; subst en))
    (try simp only [Act.put, List.setIfInBounds_toArray, List.set_cons_zero, List.set_cons_succ])
    go_upto_region 28 with (first | ((with_reducible refine gate_callee (f := 45) rfl ?_); refine goesL_ (some 81) rfl rfl Try.func45 (by kernel_rfl) rfl #[.slice An R.length cn, .slice Aw R.length cw] rfl (by (try simp only [List.map_toArray, List.map_cons, List.map_nil]); first | done | rfl) ?_; (refine (laws_eqIntSS.calls k _ _ R _ _ R true _ (Kd.S_reads' HN.out).2.2 (Kd.S_reads' HN.out).2.1 (Kd.S_reads' HW.out).2.2 (Kd.S_reads' HW.out).2.1 A4.out).mono ?_); rintro e w' ⟨rfl, ⟨nd4, rfl⟩⟩; refine ⟨_, rfl, ?_⟩; skip))
    (try simp only [Act.put, List.setIfInBounds_toArray, List.set_cons_zero, List.set_cons_succ])
    have n0_ := Aside0.mk (blk_drewN BM.out nd4); have n1_ := Aside0.mk (Kd.S_drewN HW.out nd4); have n2_ := Aside0.mk (Kd.S_drewN HG.out nd4); have n3_ := Aside0.mk (pw_below_drewN HB.out nd4); clear BM HW HG HB; have BM := n0_; have HW := n1_; have HG := n2_; have HB := n3_; clear n0_ n1_ n2_ n3_
    clear hcm0 hcm1
    generalize w17.drewN nd4 = w18 at BM HW HG HB ⊢
    go_wp2_with (first | ((with_reducible refine gate_callee (f := 47) rfl ?_); refine goesL_ (some 90) rfl rfl Try.func47 (by kernel_rfl) rfl #[.slice Ag R.length cg, .int .i64 1] rfl (by (try simp only [List.map_toArray, List.map_cons, List.map_nil]); first | done | rfl) ?_; (refine (HH.out _ (by have h_ := (Kd.S_reads' HG.out).2.2; exact h_)).mono ?_); rintro e w' ⟨rfl, ⟨nd5, rfl⟩⟩; refine ⟨_, rfl, ?_⟩; skip))
    go_ret
    exact ⟨rfl, (by repeat (first | (with_reducible first | exact HB.out | apply below_alloc | apply pw_below_drewN | apply below_drew1) | exact HB.out))⟩


/-- THE ONE PURE STATEMENT of laws_FnExactCurvesOf. -/
def laws_FnExactCurvesOf.Pure : Prop := ∀ (l0_0 : List Int) (l0_1 : List Int), l0_0.length ≤ maxLen → l0_0.length * 8 ≤ 140737488351232 → (∀ x ∈ l0_0, (Lit.int .i64 x).wf = true) → l0_1.length ≤ maxLen → l0_1.length * 8 ≤ 140737488351232 → (∀ x ∈ l0_1, (Lit.int .i64 x).wf = true) → laws_FnExactCurvesOf.Told l0_0 l0_1
-- the walk
theorem laws_FnExactCurvesOf.walk (P : laws_FnExactCurvesOf.Pure) (a0_0 : Option Addr) (len0_0 cap0_0 : Nat) (z0_0 : List Int) (a0_1 : Option Addr) (len0_1 cap0_1 : Nat) (z0_1 : List Int) (w : World) (w0_0 : (a0_0 = none ∧ len0_0 = 0 ∧ cap0_0 = 0 ∧ z0_0 = []) ∨ ∃ x, a0_0 = some x ∧ len0_0 ≤ cap0_0 ∧ cap0_0 ≤ maxLen ∧ z0_0.length = cap0_0 ∧ (∀ i, i < z0_0.length → w.cell? (x.add i) = some (.int .i64 (z0_0.getD i 0))) ∧ ∀ n ∈ z0_0, (Lit.int .i64 n).wf = true) (y0_0 : len0_0 * 8 ≤ 140737488351232) (w0_1 : (a0_1 = none ∧ len0_1 = 0 ∧ cap0_1 = 0 ∧ z0_1 = []) ∨ ∃ x, a0_1 = some x ∧ len0_1 ≤ cap0_1 ∧ cap0_1 ≤ maxLen ∧ z0_1.length = cap0_1 ∧ (∀ i, i < z0_1.length → w.cell? (x.add i) = some (.int .i64 (z0_1.getD i 0))) ∧ ∀ n ∈ z0_1, (Lit.int .i64 n).wf = true) (y0_1 : len0_1 * 8 ≤ 140737488351232) :
    Calls Try.prog 13 #[.agg #[.slice a0_0 len0_0 cap0_0, .slice a0_1 len0_1 cap0_1]] w fun e w' => e = .returned (.bool true) ∧ Below w.heap.size w w' := by
  obtain ⟨l0_0, rfl, hr0_0, hm0_0, hw0_0, hc0_0⟩ := ReadsInt.ofRowC w0_0
  obtain ⟨l0_1, rfl, hr0_1, hm0_1, hw0_1, hc0_1⟩ := ReadsInt.ofRowC w0_1
  have h := P l0_0 l0_1 hm0_0 y0_0 hw0_0 hm0_1 y0_1 hw0_1
  refine (laws_FnExactCurvesOf.calls _ _ l0_0 _ _ l0_1 w (Kd.C_of_reads (d := (0 : Int)) (h1 := fun _ => rfl) hr0_0) hc0_0 (Kd.C_of_reads (d := (0 : Int)) (h1 := fun _ => rfl) hr0_1) hc0_1 h).mono ?_
  rintro e w' ⟨rfl, hd⟩
  exact ⟨rfl, hd⟩

end Go.Proofs.Ytoomehfmjgbbfaa.QFnExactCurvesOf
