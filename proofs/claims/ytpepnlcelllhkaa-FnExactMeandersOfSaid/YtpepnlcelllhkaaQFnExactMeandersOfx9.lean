-- Written by wip/myprint.py (a program of mine round the kit's printer). Lean checks it.
import Derived.Test.YtpepnlcelllhkaaQFnExactMeandersOfx0
import Derived.Test.YtpepnlcelllhkaaQFnExactMeandersOfx3
import Derived.Test.YtpepnlcelllhkaaQFnExactMeandersOfx6
import Derived.Test.YtpepnlcelllhkaaQFnExactMeandersOfx8
namespace Go.Proofs.Ytpepnlcelllhkaa.QFnExactMeandersOf
open Go.RowKit Go.Proofs.YtpepnlcelllhkaaW.PrintWords Go.Proofs.YtpepnlcelllhkaaW.PrintLast Go.Proofs.YtpepnlcelllhkaaW.PrintMore
attribute [local go_sem] max2_int min2_int max_two min_two max_three min_three max_four min_four   -- for this text's walks alone
set_option linter.unusedVariables false
set_option linter.unusedSimpArgs false

/-! ### laws_markIntS: function 20 -/
def laws_markIntS.l0 : Nat → List Int → Int → Int → Option (Int × List Int)
  | 0, _, _, _ => none
  | k + 1, x0, x1, x5 => if x5 < (x0.length : Int) then (if 0 ≤ x5 then (laws_markIntS.l0 k (x0.set (x5 : Int).toNat x1) (wrap64 (x1 + 1)) (wrap64 (x5 + 1))) else (none)) else (some (x1, x0))
def laws_markIntS.f (k : Nat) (l0 : List Int) (a1 : Int) : Option (Int × List Int) := laws_markIntS.l0 k l0 a1 0
theorem laws_markIntS.mono_l : ∀ k, (∀ y0 y1 y2, LeO (laws_markIntS.l0 k y0 y1 y2) (laws_markIntS.l0 (k + 1) y0 y1 y2))
  | 0 => fun _ _ _ r h => by simp [laws_markIntS.l0] at h
  | k + 1 => by
    have ih0 := laws_markIntS.mono_l k
    · intro y0 y1 y2
      unfold laws_markIntS.l0
      repeat' first
      | (with_reducible exact ih0 _ _ _)
      | (with_reducible exact LeO.refl _)
      | (with_reducible exact LeO.none _)
      | (with_reducible refine LeO.ite ?_ ?_)
      | (with_reducible refine LeO.bind ?_ (fun _ => ?_))
      | exact ih0 _ _ _
      | exact LeO.none _
      | refine LeO.ite ?_ ?_
      | refine LeO.bind ?_ (fun _ => ?_)
theorem laws_markIntS.mono : ∀ a0 a1 k, LeO (laws_markIntS.f k a0 a1) (laws_markIntS.f (k + 1) a0 a1) := by
  intro a0 a1 k
  have ih0 := laws_markIntS.mono_l k
  unfold laws_markIntS.f
  repeat' first
      | (with_reducible exact ih0 _ _ _)
      | (with_reducible exact LeO.refl _)
      | (with_reducible exact LeO.none _)
      | (with_reducible refine LeO.ite ?_ ?_)
      | (with_reducible refine LeO.bind ?_ (fun _ => ?_))
      | exact ih0 _ _ _
      | exact LeO.none _
      | refine LeO.ite ?_ ?_
      | refine LeO.bind ?_ (fun _ => ?_)
set_option maxHeartbeats 8000000 in
set_option maxRecDepth 100000 in
theorem laws_markIntS.calls (k : Nat) (P0_ : Nat → Prop) (u9000_ : Value) (l0 : List Int) (a1 : Int) (r1 : Int) (r2 : List Int) (w0 w : World) (hB : Below w0.heap.size w0 w) (ho0 : Kd.R (Kd.int .i64) 3 w w0.heap.size P0_ u9000_ l0) (h : laws_markIntS.f k l0 a1 = some (r1, r2)) :
    Calls Try.prog 20 #[u9000_, .int .i64 a1] w fun e w' => e = .returned (.int .i64 r1) ∧ Kd.R (Kd.int .i64) 3 w' w0.heap.size (fun k_ => (P0_ k_ ∨ w.heap.size ≤ k_)) u9000_ r2 ∧ Below w0.heap.size w0 w' ∧ Kept w w' (fun k_ => P0_ k_) := by
  have HO0 := Aside0.mk (show Kd.R (Kd.int .i64) 3 w w0.heap.size (fun k_ => (P0_ k_ ∨ w.heap.size ≤ k_)) u9000_ l0 from Kd.R_mono ho0 (fun k_ hk => (.inl hk)))
  have HK := Aside0.mk (Kept.refl w (fun k_ => P0_ k_))
  have HW0 := Aside0.mk hB.size
  have HB := Aside0.mk hB
  clear hB
  have H : (laws_markIntS.l0 k l0 a1 0) = some (r1, r2) := h
  clear h
  have H' := Aside0.mk H
  clear H
  go_enter Try.func20, Try.ntmps20
  go_wp2
  go_loopg [1, 5] k (fun kq v1 v5 w' => ∃ (x0_1 : List Int) (x1_1 : Int) (x5_1 : Int), v1 = .int .i64 x1_1 ∧ v5 = .int .i64 x5_1 ∧ Aside0 (laws_markIntS.l0 kq x0_1 x1_1 x5_1 = some (r1, r2)) ∧ Aside0 (kq ≤ k) ∧ Aside0 (Kd.R (Kd.int .i64) 3 w' w0.heap.size (fun k_ => (P0_ k_ ∨ w.heap.size ≤ k_)) u9000_ x0_1) ∧ Aside0 (Kept w w' (fun k_ => P0_ k_)) ∧ Aside0 (Below w0.heap.size w0 w'))
  case atStart => exact ⟨(l0), (a1), (0), (by first | rfl | (simp; done) | (simp [*]; done)), (by first | rfl | (simp; done) | (simp [*]; done)), H', ⟨Nat.le_refl _⟩, ⟨by (with_reducible repeat (first | apply Kd.R_alloc | apply Kd.R_drewN | apply Kd.R_drew)); exact HO0.out⟩, ⟨by repeat (first | (with_reducible first | exact HK.out | apply Kept.alloc | apply Kept.drewN | apply Kept.drew) | exact HK.out)⟩, ⟨by repeat (first | (with_reducible first | exact HB.out | apply below_alloc | apply pw_below_drewN | apply below_drew1) | exact HB.out)⟩⟩
  case round =>
    clear H'
    try clear c2
    try clear p2
    obtain ⟨x0_1, x1_1, x5_1, rfl, rfl, HA, HK1, HO_0, HK, HB⟩ := hrel
    cases gk with
    | zero => exact absurd HA.out (by simp [laws_markIntS.l0])
    | succ k1 =>
      have H := HA.out
      clear HA
      simp only [laws_markIntS.l0] at H
      by_cases c3 : x5_1 < (x0_1.length : Int)
      · rw [if_pos c3] at H
        have c3b0 : decide (x5_1 < (x0_1.length : Int)) = true := decide_eq_true c3
        clear c3
        by_cases c4 : 0 ≤ x5_1
        · rw [if_pos c4] at H
          have c4b0 : decide (0 ≤ x5_1) = true := decide_eq_true c4
          clear c4
          obtain ⟨y317, hy317⟩ : ∃ y_ : List Int, y_ = (x0_1.set (x5_1 : Int).toNat x1_1) := ⟨_, rfl⟩
          replace H : (laws_markIntS.l0 k1 y317 (wrap64 (x1_1 + 1)) (wrap64 (x5_1 + 1))) = some (r1, r2) := by first | (rw [hy317]; with_reducible exact H) | (have H2_ := (Option.bind_some _ _).symm.trans H; rw [hy317]; with_reducible exact H2_) | (have H2_ := (Option.bind_some _ _).symm.trans H; with_reducible exact H2_) | with_reducible exact H | (rw [hy317]; exact H) | exact H
          have Ny317 := Aside0.mk hy317
          clear hy317
          have H' := Aside0.mk H
          clear H
          obtain ⟨Ao6, co6, eo6⟩ := Kd.R_slice HO_0.out
          subst eo6
          have p5 : 0 ≤ (x5_1 : Int) := of_decide_eq_true (by first | (with_reducible assumption) | assumption)
          have q5 : (x5_1 : Int) < ((x0_1.length : Int) : Int) := of_decide_eq_true (by first | (with_reducible assumption) | assumption)
          obtain ⟨go5, co5, eo5, gb5, gl5, cl5, HG5⟩ := Kd.R_form HO_0.out (by omega)
          (first | cases eo5 | (injection eo5 with ea_ en_ ec_; (first | subst ea_ | (injection ea_ with ea_; subst ea_)); subst ec_; clear en_))
          have GB5 := Aside0.mk gb5
          have GG5 := Aside0.mk HG5
          clear gb5 gl5 HG5
          have HMgo5 := Aside0.mk (show (P0_ go5 ∨ w.heap.size ≤ go5) from (HO_0.out.1 _ rfl))
          obtain ⟨hx5_0, hf5_0⟩ := Kd.R_celln 0 HO_0.out (x5_1 : Int) p5 q5
          replace p5 := eq_true p5
          replace q5 := eq_true q5
          have HP7 := Kd.R_putg HO_0.out (x5_1 : Int) x1_1
          go_wp2_with (first | ((with_reducible refine gate_store (t := 3) (p := 15) rfl ?_); refine store_event (t := 3) (p := 15) (v := ?vo_w8) (w1 := (wr.setCell ⟨go5, (x5_1 : Int).toNat, none⟩ (.int .i64 x1_1))) ?hg ?ho ?hn ?hr ?_; (case ho => rfl); (case hg => rfl); (case hn => rfl); (case hr => first | (go_simp; done) | (go_simp; rfl)); intro w8 hw; have hg : wr.grownBy w8 (some go5) := (by rw [hw]; exact HP7.2); have hp_ : Kd.R (Kd.int .i64) 3 w8 w0.heap.size (fun k_ => (P0_ k_ ∨ w.heap.size ≤ k_)) (.slice (some ⟨go5, 0, none⟩) x0_1.length co6) y317 := (by rw [hw, Ny317.out]; exact HP7.1); clear HP7; have n0_ := Aside0.mk (hp_); have n1_ := Aside0.mk ((by rw [hw]; exact below_set (HB.out) GB5.out : Below w0.heap.size w0 w8)); have n2_ := Aside0.mk (Kept.of_grown (S := (fun k_ => P0_ k_)) hg (by repeat (first | (with_reducible first | exact HK.out | apply Kept.alloc | apply Kept.drewN | apply Kept.drew) | exact HK.out)) (fun k_ e_ => (HO_0.out.1 k_ e_))); clear HO_0; clear HB; clear HK; have HO_0 := n0_; have HB := n1_; have HK := n2_; clear n0_ n1_ n2_; clear hg hw hp_))
          go_roundg k1
          case measure => have := HK1.out; omega
          case rel => exact ⟨(y317), (wrap64 (x1_1 + 1)), (wrap64 (x5_1 + 1)), (by first | rfl | (simp; done) | (simp [*]; done)), (by first | rfl | (simp; done) | (simp [*]; done)), H', ⟨by have := HK1.out; omega⟩, ⟨by (with_reducible repeat (first | apply Kd.R_alloc | apply Kd.R_drewN | apply Kd.R_drew)); exact HO_0.out⟩, ⟨by repeat (first | (with_reducible first | exact HK.out | apply Kept.alloc | apply Kept.drewN | apply Kept.drew) | exact HK.out)⟩, ⟨by repeat (first | (with_reducible first | exact HB.out | apply below_alloc | apply pw_below_drewN | apply below_drew1) | exact HB.out)⟩⟩
        · rw [if_neg c4] at H
          exact absurd H (by simp)
      · rw [if_neg c3] at H
        have c3b0 : decide (x5_1 < (x0_1.length : Int)) = false := decide_eq_false c3
        clear c3
        simp only [Option.some.injEq, Prod.mk.injEq] at H
        obtain ⟨rfl, rfl⟩ := H
        obtain ⟨Ao9, co9, eo9⟩ := Kd.R_slice HO_0.out
        subst eo9
        go_wp2
        go_ret
        exact ⟨by first | rfl | (simp [errW_none, errW_some] <;> rfl) | (simp [*, errW_none, errW_some] <;> rfl), by (with_reducible repeat (first | apply Kd.R_alloc | apply Kd.R_drewN | apply Kd.R_drew)); exact HO_0.out, by repeat (first | (with_reducible first | exact HB.out | apply below_alloc | apply pw_below_drewN | apply below_drew1) | exact HB.out), by repeat (first | (with_reducible first | exact HK.out | apply Kept.alloc | apply Kept.drewN | apply Kept.drew) | exact HK.out)⟩

/-! ### laws_markMeanderS: function 46 (by hand) -/


/-! ### laws_heldIntS: function 21 -/
def laws_heldIntS.l0 : Nat → List Int → Int → Int → Option (Int)
  | 0, _, _, _ => none
  | k + 1, x0, x1, x5 => if x5 < (x0.length : Int) then (if 0 ≤ x5 then (if (rd x0 x5) = x1 then (laws_heldIntS.l0 k x0 (wrap64 (x1 + 1)) (wrap64 (x5 + 1))) else (some (-1))) else (none)) else (some x1)
def laws_heldIntS.f (k : Nat) (l0 : List Int) (a1 : Int) : Option (Int) := laws_heldIntS.l0 k l0 a1 0
theorem laws_heldIntS.mono_l : ∀ k, (∀ y0 y1 y2, LeO (laws_heldIntS.l0 k y0 y1 y2) (laws_heldIntS.l0 (k + 1) y0 y1 y2))
  | 0 => fun _ _ _ r h => by simp [laws_heldIntS.l0] at h
  | k + 1 => by
    have ih0 := laws_heldIntS.mono_l k
    · intro y0 y1 y2
      unfold laws_heldIntS.l0
      repeat' first
      | (with_reducible exact ih0 _ _ _)
      | (with_reducible exact LeO.refl _)
      | (with_reducible exact LeO.none _)
      | (with_reducible refine LeO.ite ?_ ?_)
      | (with_reducible refine LeO.bind ?_ (fun _ => ?_))
      | exact ih0 _ _ _
      | exact LeO.none _
      | refine LeO.ite ?_ ?_
      | refine LeO.bind ?_ (fun _ => ?_)
theorem laws_heldIntS.mono : ∀ a0 a1 k, LeO (laws_heldIntS.f k a0 a1) (laws_heldIntS.f (k + 1) a0 a1) := by
  intro a0 a1 k
  have ih0 := laws_heldIntS.mono_l k
  unfold laws_heldIntS.f
  repeat' first
      | (with_reducible exact ih0 _ _ _)
      | (with_reducible exact LeO.refl _)
      | (with_reducible exact LeO.none _)
      | (with_reducible refine LeO.ite ?_ ?_)
      | (with_reducible refine LeO.bind ?_ (fun _ => ?_))
      | exact ih0 _ _ _
      | exact LeO.none _
      | refine LeO.ite ?_ ?_
      | refine LeO.bind ?_ (fun _ => ?_)
set_option maxHeartbeats 8000000 in
set_option maxRecDepth 100000 in
theorem laws_heldIntS.calls (k : Nat) (A0 : Option Addr) (c0 : Nat) (l0 : List Int) (a1 : Int) (r : Int) (w : World) (hr0 : Kd.C (Kd.int .i64) w A0 l0.length l0) (hc0 : l0.length ≤ c0) (h : laws_heldIntS.f k l0 a1 = some r) :
    Calls Try.prog 21 #[.slice A0 l0.length c0, .int .i64 a1] w fun e w' => e = .returned (.int .i64 r) ∧ Drawn0 w w' := by
  have HR0 := Aside0.mk hr0
  have HC0 := Aside0.mk hc0
  clear hr0 hc0
  have H : (laws_heldIntS.l0 k l0 a1 0) = some r := h
  clear h
  have H' := Aside0.mk H
  clear H
  go_enter Try.func21, Try.ntmps21
  go_wp2
  go_loopg [1, 5] k (fun kq v1 v5 w' => ∃ (x1_1 : Int) (x5_1 : Int), v1 = .int .i64 x1_1 ∧ v5 = .int .i64 x5_1 ∧ Aside0 (laws_heldIntS.l0 kq l0 x1_1 x5_1 = some r) ∧ Aside0 (kq ≤ k) ∧ Drawn0 w w')
  case atStart => exact ⟨(a1), (0), (by first | rfl | (simp; done) | (simp [*]; done)), (by first | rfl | (simp; done) | (simp [*]; done)), H', ⟨Nat.le_refl _⟩, by repeat (first | exact Drawn0.refl _ | apply Drawn0.step)⟩
  case round =>
    clear H'
    try clear c2
    try clear p2
    obtain ⟨x1_1, x5_1, rfl, rfl, HA, HK1, ⟨m1, rfl⟩⟩ := hrel
    cases gk with
    | zero => exact absurd HA.out (by simp [laws_heldIntS.l0])
    | succ k1 =>
      have H := HA.out
      clear HA
      simp only [laws_heldIntS.l0] at H
      by_cases c3 : x5_1 < (l0.length : Int)
      · rw [if_pos c3] at H
        have c3b0 : decide (x5_1 < (l0.length : Int)) = true := decide_eq_true c3
        clear c3
        by_cases c4 : 0 ≤ x5_1
        · rw [if_pos c4] at H
          have c4b0 : decide (0 ≤ x5_1) = true := decide_eq_true c4
          clear c4
          by_cases c5 : (rd l0 x5_1) = x1_1
          · rw [if_pos c5] at H
            have c5b0 : ((rd l0 x5_1) == x1_1) = true := beq_iff_eq.mpr c5
            have c5b1 : ((rd l0 x5_1) != x1_1) = false := bne_eq_false_iff_eq.mpr c5
            clear c5
            have H' := Aside0.mk H
            clear H
            have p318 : 0 ≤ (x5_1 : Int) := of_decide_eq_true (by first | (with_reducible assumption) | assumption)
            have q318 : x5_1 < (l0.length : Int) := of_decide_eq_true (by first | (with_reducible assumption) | assumption)
            obtain ⟨ad318, e318, hx318_0⟩ := Kd.at_int HR0.out x5_1 p318 q318
            cases e318
            replace p318 := eq_true p318
            replace q318 := eq_true q318
            go_wp2
            go_roundg k1
            case measure => have := HK1.out; omega
            case rel => exact ⟨(wrap64 (x1_1 + 1)), (wrap64 (x5_1 + 1)), (by first | rfl | (simp; done) | (simp [*]; done)), (by first | rfl | (simp; done) | (simp [*]; done)), H', ⟨by have := HK1.out; omega⟩, by repeat (first | exact Drawn0.refl _ | apply Drawn0.step)⟩
          · rw [if_neg c5] at H
            have c5b0 : ((rd l0 x5_1) == x1_1) = false := beq_eq_false_iff_ne.mpr c5
            have c5b1 : ((rd l0 x5_1) != x1_1) = true := bne_iff_ne.mpr c5
            obtain rfl := Option.some.inj H
            have p318 : 0 ≤ (x5_1 : Int) := of_decide_eq_true (by first | (with_reducible assumption) | assumption)
            have q318 : x5_1 < (l0.length : Int) := of_decide_eq_true (by first | (with_reducible assumption) | assumption)
            obtain ⟨ad318, e318, hx318_0⟩ := Kd.at_int HR0.out x5_1 p318 q318
            cases e318
            replace p318 := eq_true p318
            replace q318 := eq_true q318
            go_wp2
            go_ret
            exact ⟨by first | rfl | (simp; done) | (simp [*]; done), by repeat (first | exact Drawn0.refl _ | apply Drawn0.step)⟩
        · rw [if_neg c4] at H
          exact absurd H (by simp)
      · rw [if_neg c3] at H
        have c3b0 : decide (x5_1 < (l0.length : Int)) = false := decide_eq_false c3
        clear c3
        obtain rfl := Option.some.inj H
        go_wp2
        go_ret
        exact ⟨by first | rfl | (simp; done) | (simp [*]; done), by repeat (first | exact Drawn0.refl _ | apply Drawn0.step)⟩

/-! ### laws_heldMeanderS: function 47 -/
def laws_heldMeanderS.l0 : Nat → List (S44) → Int → Int → Option (Int)
  | 0, _, _, _ => none
  | k + 1, x0, x1, x5 => if x5 < (x0.length : Int) then (if 0 ≤ x5 then ((laws_heldIntS.f k ((rd_T44 x0 x5).f0) x1).bind fun t320 => (if t320 < 0 then (some (-1)) else ((laws_heldIntS.f k ((rd_T44 x0 x5).f1) t320).bind fun t322 => (if t322 < 0 then (some (-1)) else (laws_heldMeanderS.l0 k x0 t322 (wrap64 (x5 + 1))))))) else (none)) else (some x1)
def laws_heldMeanderS.f (k : Nat) (l0 : List (S44)) (a1 : Int) : Option (Int) := laws_heldMeanderS.l0 k l0 a1 0
theorem laws_heldMeanderS.mono_l : ∀ k, (∀ y0 y1 y2, LeO (laws_heldMeanderS.l0 k y0 y1 y2) (laws_heldMeanderS.l0 (k + 1) y0 y1 y2))
  | 0 => fun _ _ _ r h => by simp [laws_heldMeanderS.l0] at h
  | k + 1 => by
    have ih0 := laws_heldMeanderS.mono_l k
    · intro y0 y1 y2
      unfold laws_heldMeanderS.l0
      repeat' first
      | (with_reducible exact ih0 _ _ _)
      | (with_reducible exact laws_heldIntS.mono _ _ _)
      | (with_reducible exact LeO.refl _)
      | (with_reducible exact LeO.none _)
      | (with_reducible refine LeO.ite ?_ ?_)
      | (with_reducible refine LeO.bind ?_ (fun _ => ?_))
      | exact ih0 _ _ _
      | exact laws_heldIntS.mono _ _ _
      | exact LeO.none _
      | refine LeO.ite ?_ ?_
      | refine LeO.bind ?_ (fun _ => ?_)
theorem laws_heldMeanderS.mono : ∀ a0 a1 k, LeO (laws_heldMeanderS.f k a0 a1) (laws_heldMeanderS.f (k + 1) a0 a1) := by
  intro a0 a1 k
  have ih0 := laws_heldMeanderS.mono_l k
  unfold laws_heldMeanderS.f
  repeat' first
      | (with_reducible exact ih0 _ _ _)
      | (with_reducible exact laws_heldIntS.mono _ _ _)
      | (with_reducible exact LeO.refl _)
      | (with_reducible exact LeO.none _)
      | (with_reducible refine LeO.ite ?_ ?_)
      | (with_reducible refine LeO.bind ?_ (fun _ => ?_))
      | exact ih0 _ _ _
      | exact laws_heldIntS.mono _ _ _
      | exact LeO.none _
      | refine LeO.ite ?_ ?_
      | refine LeO.bind ?_ (fun _ => ?_)
set_option maxHeartbeats 8000000 in
set_option maxRecDepth 100000 in
theorem laws_heldMeanderS.calls (k : Nat) (A0 : Option Addr) (c0 : Nat) (l0 : List (S44)) (a1 : Int) (r : Int) (w : World) (hr0 : Kd.C k44 w A0 l0.length l0) (hc0 : l0.length ≤ c0) (h : laws_heldMeanderS.f k l0 a1 = some r) :
    Calls Try.prog 47 #[.slice A0 l0.length c0, .int .i64 a1] w fun e w' => e = .returned (.int .i64 r) ∧ Drawn0 w w' := by
  have HR0 := Aside0.mk hr0
  have HC0 := Aside0.mk hc0
  clear hr0 hc0
  have H : (laws_heldMeanderS.l0 k l0 a1 0) = some r := h
  clear h
  have H' := Aside0.mk H
  clear H
  go_enter Try.func47, Try.ntmps47
  go_wp2
  go_loopg [1, 5] k (fun kq v1 v5 w' => ∃ (x1_1 : Int) (x5_1 : Int), v1 = .int .i64 x1_1 ∧ v5 = .int .i64 x5_1 ∧ Aside0 (laws_heldMeanderS.l0 kq l0 x1_1 x5_1 = some r) ∧ Aside0 (kq ≤ k) ∧ Drawn0 w w')
  case atStart => exact ⟨(a1), (0), (by first | rfl | (simp; done) | (simp [*]; done)), (by first | rfl | (simp; done) | (simp [*]; done)), H', ⟨Nat.le_refl _⟩, by repeat (first | exact Drawn0.refl _ | apply Drawn0.step)⟩
  case round =>
    clear H'
    try clear p2
    obtain ⟨x1_1, x5_1, rfl, rfl, HA, HK1, ⟨m1, rfl⟩⟩ := hrel
    cases gk with
    | zero => exact absurd HA.out (by simp [laws_heldMeanderS.l0])
    | succ k1 =>
      have H := HA.out
      clear HA
      simp only [laws_heldMeanderS.l0] at H
      by_cases c3 : x5_1 < (l0.length : Int)
      · rw [if_pos c3] at H
        have c3b0 : decide (x5_1 < (l0.length : Int)) = true := decide_eq_true c3
        clear c3
        by_cases c4 : 0 ≤ x5_1
        · rw [if_pos c4] at H
          have c4b0 : decide (0 ≤ x5_1) = true := decide_eq_true c4
          clear c4
          replace H := Option.bind_eq_some_iff.mp H
          obtain ⟨t320, A50, H⟩ := H
          replace H : (if t320 < 0 then (some (-1)) else ((laws_heldIntS.f k1 ((rd_T44 l0 x5_1).f1) t320).bind fun t322 => (if t322 < 0 then (some (-1)) else (laws_heldMeanderS.l0 k1 l0 t322 (wrap64 (x5_1 + 1)))))) = some r := H
          have A5 := Aside0.mk A50
          clear A50
          by_cases c6 : t320 < 0
          · rw [if_pos c6] at H
            have c6b0 : decide (t320 < 0) = true := decide_eq_true c6
            clear c6
            obtain rfl := Option.some.inj H
            have p319 : 0 ≤ (x5_1 : Int) := of_decide_eq_true (by first | (with_reducible assumption) | assumption)
            have q319 : x5_1 < (l0.length : Int) := of_decide_eq_true (by first | (with_reducible assumption) | assumption)
            obtain ⟨ad319, A319_0, c319_0, A319_1, c319_1, e319, hx319_0, hx319_1, hl319_0, hi319_0, hl319_1, hi319_1⟩ := at_T44 HR0.out x5_1 p319 q319
            cases e319
            have HR319_0 := Aside0.mk hi319_0
            have HC319_0 := Aside0.mk hl319_0
            clear hi319_0 hl319_0
            have HR319_1 := Aside0.mk hi319_1
            have HC319_1 := Aside0.mk hl319_1
            clear hi319_1 hl319_1
            replace p319 := eq_true p319
            replace q319 := eq_true q319
            go_wp2_with (first | ((with_reducible refine gate_callee (f := 21) rfl ?_); refine goesL_ (some 18) rfl rfl Try.func21 (by kernel_rfl) rfl #[.slice A319_0 ((rd_T44 l0 x5_1).f0).length c319_0, .int .i64 x1_1] rfl (by (try simp only [List.map_toArray, List.map_cons, List.map_nil]); first | done | rfl | (simp only [List.length_drop, List.length_take]; rfl)) ?_; (with_reducible refine (laws_heldIntS.calls k1 _ _ ((rd_T44 l0 x5_1).f0) x1_1 t320 _ ?side1 ?side2 A5.out).mono ?_); (case side1 => repeat (first | exact HR319_0.out | (with_reducible refine Kd.C_alloc ?_ _) | (with_reducible refine Kd.C_drewN ?_ _) | (with_reducible refine Kd.C_drew ?_))); (case side2 => exact HC319_0.out); rintro e w' ⟨rfl, ⟨nd, rfl⟩⟩; refine ⟨_, rfl, ?_⟩))
            go_ret
            exact ⟨by first | rfl | (simp; done) | (simp [*]; done), by repeat (first | exact Drawn0.refl _ | apply Drawn0.step)⟩
          · rw [if_neg c6] at H
            have c6b0 : decide (t320 < 0) = false := decide_eq_false c6
            clear c6
            replace H := Option.bind_eq_some_iff.mp H
            obtain ⟨t322, A70, H⟩ := H
            replace H : (if t322 < 0 then (some (-1)) else (laws_heldMeanderS.l0 k1 l0 t322 (wrap64 (x5_1 + 1)))) = some r := H
            have A7 := Aside0.mk A70
            clear A70
            by_cases c8 : t322 < 0
            · rw [if_pos c8] at H
              have c8b0 : decide (t322 < 0) = true := decide_eq_true c8
              clear c8
              obtain rfl := Option.some.inj H
              have p319 : 0 ≤ (x5_1 : Int) := of_decide_eq_true (by first | (with_reducible assumption) | assumption)
              have q319 : x5_1 < (l0.length : Int) := of_decide_eq_true (by first | (with_reducible assumption) | assumption)
              obtain ⟨ad319, A319_0, c319_0, A319_1, c319_1, e319, hx319_0, hx319_1, hl319_0, hi319_0, hl319_1, hi319_1⟩ := at_T44 HR0.out x5_1 p319 q319
              cases e319
              have HR319_0 := Aside0.mk hi319_0
              have HC319_0 := Aside0.mk hl319_0
              clear hi319_0 hl319_0
              have HR319_1 := Aside0.mk hi319_1
              have HC319_1 := Aside0.mk hl319_1
              clear hi319_1 hl319_1
              replace p319 := eq_true p319
              replace q319 := eq_true q319
              go_wp2_with (first | ((with_reducible refine gate_callee (f := 21) rfl ?_); refine goesL_ (some 18) rfl rfl Try.func21 (by kernel_rfl) rfl #[.slice A319_0 ((rd_T44 l0 x5_1).f0).length c319_0, .int .i64 x1_1] rfl (by (try simp only [List.map_toArray, List.map_cons, List.map_nil]); first | done | rfl | (simp only [List.length_drop, List.length_take]; rfl)) ?_; (with_reducible refine (laws_heldIntS.calls k1 _ _ ((rd_T44 l0 x5_1).f0) x1_1 t320 _ ?side1 ?side2 A5.out).mono ?_); (case side1 => repeat (first | exact HR319_0.out | (with_reducible refine Kd.C_alloc ?_ _) | (with_reducible refine Kd.C_drewN ?_ _) | (with_reducible refine Kd.C_drew ?_))); (case side2 => exact HC319_0.out); rintro e w' ⟨rfl, ⟨nd, rfl⟩⟩; refine ⟨_, rfl, ?_⟩; have p321 : 0 ≤ (x5_1 : Int) := of_decide_eq_true (by first | (with_reducible assumption) | assumption); have q321 : x5_1 < (l0.length : Int) := of_decide_eq_true (by first | (with_reducible assumption) | assumption); obtain ⟨ad321, A321_0, c321_0, A321_1, c321_1, e321, hx321_0, hx321_1, hl321_0, hi321_0, hl321_1, hi321_1⟩ := at_T44 HR0.out x5_1 p321 q321; obtain rfl : ad319 = ad321 := (by injection e321); have HR321_0 := Aside0.mk hi321_0; have HC321_0 := Aside0.mk hl321_0; clear hi321_0 hl321_0; have HR321_1 := Aside0.mk hi321_1; have HC321_1 := Aside0.mk hl321_1; clear hi321_1 hl321_1; replace p321 := eq_true p321; replace q321 := eq_true q321; have ea_ := Option.some.inj (hx319_0.symm.trans hx321_0); injection ea_ with ea_ en_ ec_; subst ea_; subst ec_; clear en_; have ea_ := Option.some.inj (hx319_1.symm.trans hx321_1); injection ea_ with ea_ en_ ec_; subst ea_; subst ec_; clear en_) | ((with_reducible refine gate_callee (f := 21) rfl ?_); refine goesL_ (some 27) rfl rfl Try.func21 (by kernel_rfl) rfl #[.slice A319_1 ((rd_T44 l0 x5_1).f1).length c319_1, .int .i64 t320] rfl (by (try simp only [List.map_toArray, List.map_cons, List.map_nil]); first | done | rfl | (simp only [List.length_drop, List.length_take]; rfl)) ?_; (with_reducible refine (laws_heldIntS.calls k1 _ _ ((rd_T44 l0 x5_1).f1) t320 t322 _ ?side1 ?side2 A7.out).mono ?_); (case side1 => repeat (first | exact HR321_1.out | (with_reducible refine Kd.C_alloc ?_ _) | (with_reducible refine Kd.C_drewN ?_ _) | (with_reducible refine Kd.C_drew ?_))); (case side2 => exact HC321_1.out); rintro e w' ⟨rfl, ⟨nd, rfl⟩⟩; refine ⟨_, rfl, ?_⟩))
              go_ret
              exact ⟨by first | rfl | (simp; done) | (simp [*]; done), by repeat (first | exact Drawn0.refl _ | apply Drawn0.step)⟩
            · rw [if_neg c8] at H
              have c8b0 : decide (t322 < 0) = false := decide_eq_false c8
              clear c8
              have H' := Aside0.mk H
              clear H
              have p319 : 0 ≤ (x5_1 : Int) := of_decide_eq_true (by first | (with_reducible assumption) | assumption)
              have q319 : x5_1 < (l0.length : Int) := of_decide_eq_true (by first | (with_reducible assumption) | assumption)
              obtain ⟨ad319, A319_0, c319_0, A319_1, c319_1, e319, hx319_0, hx319_1, hl319_0, hi319_0, hl319_1, hi319_1⟩ := at_T44 HR0.out x5_1 p319 q319
              cases e319
              have HR319_0 := Aside0.mk hi319_0
              have HC319_0 := Aside0.mk hl319_0
              clear hi319_0 hl319_0
              have HR319_1 := Aside0.mk hi319_1
              have HC319_1 := Aside0.mk hl319_1
              clear hi319_1 hl319_1
              replace p319 := eq_true p319
              replace q319 := eq_true q319
              go_wp2_with (first | ((with_reducible refine gate_callee (f := 21) rfl ?_); refine goesL_ (some 18) rfl rfl Try.func21 (by kernel_rfl) rfl #[.slice A319_0 ((rd_T44 l0 x5_1).f0).length c319_0, .int .i64 x1_1] rfl (by (try simp only [List.map_toArray, List.map_cons, List.map_nil]); first | done | rfl | (simp only [List.length_drop, List.length_take]; rfl)) ?_; (with_reducible refine (laws_heldIntS.calls k1 _ _ ((rd_T44 l0 x5_1).f0) x1_1 t320 _ ?side1 ?side2 A5.out).mono ?_); (case side1 => repeat (first | exact HR319_0.out | (with_reducible refine Kd.C_alloc ?_ _) | (with_reducible refine Kd.C_drewN ?_ _) | (with_reducible refine Kd.C_drew ?_))); (case side2 => exact HC319_0.out); rintro e w' ⟨rfl, ⟨nd, rfl⟩⟩; refine ⟨_, rfl, ?_⟩; have p321 : 0 ≤ (x5_1 : Int) := of_decide_eq_true (by first | (with_reducible assumption) | assumption); have q321 : x5_1 < (l0.length : Int) := of_decide_eq_true (by first | (with_reducible assumption) | assumption); obtain ⟨ad321, A321_0, c321_0, A321_1, c321_1, e321, hx321_0, hx321_1, hl321_0, hi321_0, hl321_1, hi321_1⟩ := at_T44 HR0.out x5_1 p321 q321; obtain rfl : ad319 = ad321 := (by injection e321); have HR321_0 := Aside0.mk hi321_0; have HC321_0 := Aside0.mk hl321_0; clear hi321_0 hl321_0; have HR321_1 := Aside0.mk hi321_1; have HC321_1 := Aside0.mk hl321_1; clear hi321_1 hl321_1; replace p321 := eq_true p321; replace q321 := eq_true q321; have ea_ := Option.some.inj (hx319_0.symm.trans hx321_0); injection ea_ with ea_ en_ ec_; subst ea_; subst ec_; clear en_; have ea_ := Option.some.inj (hx319_1.symm.trans hx321_1); injection ea_ with ea_ en_ ec_; subst ea_; subst ec_; clear en_) | ((with_reducible refine gate_callee (f := 21) rfl ?_); refine goesL_ (some 27) rfl rfl Try.func21 (by kernel_rfl) rfl #[.slice A319_1 ((rd_T44 l0 x5_1).f1).length c319_1, .int .i64 t320] rfl (by (try simp only [List.map_toArray, List.map_cons, List.map_nil]); first | done | rfl | (simp only [List.length_drop, List.length_take]; rfl)) ?_; (with_reducible refine (laws_heldIntS.calls k1 _ _ ((rd_T44 l0 x5_1).f1) t320 t322 _ ?side1 ?side2 A7.out).mono ?_); (case side1 => repeat (first | exact HR321_1.out | (with_reducible refine Kd.C_alloc ?_ _) | (with_reducible refine Kd.C_drewN ?_ _) | (with_reducible refine Kd.C_drew ?_))); (case side2 => exact HC321_1.out); rintro e w' ⟨rfl, ⟨nd, rfl⟩⟩; refine ⟨_, rfl, ?_⟩))
              go_roundg k1
              case measure => have := HK1.out; omega
              case rel => exact ⟨(t322), (wrap64 (x5_1 + 1)), (by first | rfl | (simp; done) | (simp [*]; done)), (by first | rfl | (simp; done) | (simp [*]; done)), H', ⟨by have := HK1.out; omega⟩, by repeat (first | exact Drawn0.refl _ | apply Drawn0.step)⟩
        · rw [if_neg c4] at H
          exact absurd H (by simp)
      · rw [if_neg c3] at H
        have c3b0 : decide (x5_1 < (l0.length : Int)) = false := decide_eq_false c3
        clear c3
        obtain rfl := Option.some.inj H
        go_wp2
        go_ret
        exact ⟨by first | rfl | (simp; done) | (simp [*]; done), by repeat (first | exact Drawn0.refl _ | apply Drawn0.step)⟩

/-! ### laws_FnExactMeandersOf: function 12 (by hand) -/
def laws_markMeanderS.l0 : Nat → List S44 → Int → Int → Option (Int × List S44)
  | 0, _, _, _ => none
  | k + 1, xs, a, i => if i < (xs.length : Int) then (if 0 ≤ i then ((laws_markIntS.f k (rd_T44 xs i).f0 a).bind fun t => ((laws_markIntS.f k (rd_T44 xs i).f1 t.1).bind fun s => laws_markMeanderS.l0 k (xs.set i.toNat ⟨t.2, s.2⟩) s.1 (wrap64 (i + 1)))) else none) else (some (a, xs))
def laws_markMeanderS.f (k : Nat) (l0 : List S44) (a1 : Int) : Option (Int × List S44) := laws_markMeanderS.l0 k l0 a1 0
set_option maxHeartbeats 8000000 in
set_option maxRecDepth 100000 in
theorem laws_markMeanderS.calls (k : Nat) (v : Value) (g : List (S44 × Value × Value)) (a1 : Int) (r1 : Int) (r2 : List S44) (w0 w : World) (hB : Below w0.heap.size w0 w) (hG : GLs w0.heap.size w w0.heap.size v g) (ha : ApartV (flatG g)) (h : laws_markMeanderS.f k (g.map Prod.fst) a1 = some (r1, r2)) :
    Calls Try.prog 46 #[v, .int .i64 a1] w fun e w' => ∃ g' : List (S44 × Value × Value), e = .returned (.int .i64 r1) ∧ g'.map Prod.fst = r2 ∧ flatG g' = flatG g ∧ GLs w0.heap.size w' w0.heap.size v g' ∧ Below w0.heap.size w0 w' ∧ Kept w w' (BlkG g) := by
  have H' := Aside0.mk (show laws_markMeanderS.l0 k (g.map Prod.fst) a1 0 = some (r1, r2) from h)
  clear h
  obtain ⟨A0, c0, hv, _, _⟩ := hG.reads
  rw [List.length_map] at hv
  subst hv
  have HG0 := Aside0.mk hG
  have HA0 := Aside0.mk ha
  have HB0 := Aside0.mk hB
  have HK0 := Aside0.mk (Kept.refl w (BlkG g))
  clear hG hB ha
  go_enter Try.func46, Try.ntmps46
  go_wp2
  go_loopg [1, 5] k (fun kq v1 v5 w' => ∃ (g1 : List (S44 × Value × Value)) (x1_1 : Int) (x5_1 : Int), v1 = .int .i64 x1_1 ∧ v5 = .int .i64 x5_1 ∧ Aside0 (laws_markMeanderS.l0 kq (g1.map Prod.fst) x1_1 x5_1 = some (r1, r2)) ∧ Aside0 (kq ≤ k) ∧ Aside0 (g1.length = g.length) ∧ Aside0 (flatG g1 = flatG g) ∧ Aside0 (GLs w0.heap.size w' w0.heap.size (.slice A0 g.length c0) g1) ∧ Aside0 (Below w0.heap.size w0 w') ∧ Aside0 (Kept w w' (BlkG g)))
  case atStart => exact ⟨g, a1, 0, (by first | rfl | (simp; done) | (simp [*]; done)), (by first | rfl | (simp; done) | (simp [*]; done)), H', ⟨Nat.le_refl _⟩, ⟨rfl⟩, ⟨rfl⟩, HG0, HB0, HK0⟩
  case round =>
    clear H' HG0 HB0 HK0
    obtain ⟨g1, x1_1, x5_1, rfl, rfl, HA, HK1, HLEN, HFL, HG, HB, HK⟩ := hrel
    cases gk with
    | zero => exact absurd HA.out (by simp [laws_markMeanderS.l0])
    | succ k1 =>
      have H := HA.out
      clear HA
      simp only [laws_markMeanderS.l0] at H
      rw [List.length_map, HLEN.out] at H
      by_cases c3 : x5_1 < (g.length : Int)
      · rw [if_pos c3] at H
        have c3b0 : decide (x5_1 < (g.length : Int)) = true := decide_eq_true c3
        by_cases c4 : 0 ≤ x5_1
        · rw [if_pos c4] at H
          have c4b0 : decide (0 ≤ x5_1) = true := decide_eq_true c4
          replace H := Option.bind_eq_some_iff.mp H
          obtain ⟨⟨t1, t2⟩, A50, H⟩ := H
          replace H := Option.bind_eq_some_iff.mp H
          obtain ⟨⟨s1, s2⟩, A60, H⟩ := H
          have hil : x5_1.toNat < g1.length := by have := HLEN.out; omega
          obtain ⟨x, hx⟩ : ∃ x, g1[x5_1.toNat]? = some x := ⟨_, List.getElem?_eq_getElem hil⟩
          have hrd : rd_T44 (g1.map Prod.fst) x5_1 = x.1 := by
            unfold rd_T44
            rw [List.getD_eq_getElem?_getD, List.getElem?_map, hx]; rfl
          rw [hrd] at A50 A60
          simp only at A60 H
          have A5 := Aside0.mk A50
          have A6 := Aside0.mk A60
          have H' := Aside0.mk H
          clear A50 A60 H
          obtain ⟨hE1, hE2⟩ := HG.out.els x (List.mem_of_getElem? hx)
          have HX := Aside0.mk hx
          have ha1 : ApartV (flatG g1) := by rw [HFL.out]; exact HA0.out
          have HA1 := Aside0.mk ha1
          obtain ⟨E0, d0, e0⟩ := Kd.R_slice hE1
          obtain ⟨E1, d1, e1⟩ := Kd.R_slice hE2
          have HE1 := Aside0.mk e0
          have HE2 := Aside0.mk e1
          have HR1 := Aside0.mk hE1
          obtain ⟨ad, hA0⟩ : ∃ ad, A0 = some ad := by
            obtain ⟨g9, cap9, he9, _⟩ := Kd.N_form HG.out.to_N (by have := HLEN.out; omega)
            injection he9 with he9
            exact ⟨_, he9⟩
          subst hA0
          obtain ⟨hc0, hc1⟩ := HG.out.at x5_1 c4 c3 x hx
          rw [e0] at hc0
          have p224 : (0 ≤ (x5_1 : Int)) = True := eq_true c4
          have q224 : (x5_1 < (g.length : Int)) = True := eq_true c3
          have HC4 := Aside0.mk c4
          have HC3 := Aside0.mk c3
          clear c3 c4 ha1 hil hrd hE1 hE2 e0 e1 hx hc1
          have HX1 := Aside0.mk (laws_markIntS.calls k1 (fun k_ => some k_ = (x.2.1 : Value).ownBlock) x.2.1 x.1.f0 x1_1 t1 t2 w0 _ HB.out (Kd.R_tight rfl HR1.out) A5.out)
          rw [HE1.out] at HX1
          go_wp2_with (first | ((with_reducible refine gate_callee (f := 20) rfl ?_); refine goesL_ (some 18) rfl rfl Try.func20 (by kernel_rfl) rfl #[.slice E0 x.1.f0.length d0, .int .i64 x1_1] rfl (by (try simp only [List.map_toArray, List.map_cons, List.map_nil]); first | done | rfl) ?_; (refine HX1.out.mono ?_); rintro e w2 ⟨rfl, ho, hb, hk⟩; refine ⟨_, rfl, ?_⟩; have HK2 := Aside0.mk hk; have HG2 := Aside0.mk (HG.out.set0 HA1.out x5_1.toNat x HX.out (fun k hlt_ hne => HK2.out.2 k hlt_ (fun e => hne (by rw [HE1.out]; exact e))) (by rw [HE1.out]; exact ho) (Nat.le_refl _)); have HB2 := Aside0.mk hb; clear ho hb hk; have hx2_ : (g1.set x5_1.toNat (⟨t2, x.1.f1⟩, x.2.1, x.2.2))[x5_1.toNat]? = some (⟨t2, x.1.f1⟩, x.2.1, x.2.2) := List.getElem?_set_self (by have := HLEN.out; have := HC3.out; have := HC4.out; omega); obtain ⟨hd0, hd1⟩ := HG2.out.at x5_1 HC4.out HC3.out _ hx2_; (rw [show ((⟨t2, x.1.f1⟩, x.2.1, x.2.2) : S44 × Value × Value).2.2 = x.2.2 from rfl, HE2.out] at hd1); have hr2_ := (HG2.out.els _ (List.mem_of_getElem? hx2_)).2; have HX2 := Aside0.mk (laws_markIntS.calls k1 (fun k_ => some k_ = (x.2.2 : Value).ownBlock) x.2.2 x.1.f1 t1 s1 s2 w0 _ HB2.out (Kd.R_tight rfl hr2_) A6.out); (rw [HE2.out] at HX2); clear hx2_ hr2_ hd0 hc0) | ((with_reducible refine gate_callee (f := 20) rfl ?_); refine goesL_ (some 25) rfl rfl Try.func20 (by kernel_rfl) rfl #[.slice E1 x.1.f1.length d1, .int .i64 t1] rfl (by (try simp only [List.map_toArray, List.map_cons, List.map_nil]); first | done | rfl) ?_; (refine HX2.out.mono ?_); rintro e w3 ⟨rfl, ho, hb, hk⟩; refine ⟨_, rfl, ?_⟩; have HO3 := Aside0.mk ho; have HB3 := Aside0.mk hb; have HK3 := Aside0.mk hk; clear ho hb hk))
          go_roundg k1
          case measure => have := HK1.out; omega
          case rel =>
            have hX2 : (g1.set x5_1.toNat (⟨t2, x.1.f1⟩, x.2.1, x.2.2))[x5_1.toNat]? = some (⟨t2, x.1.f1⟩, x.2.1, x.2.2) := List.getElem?_set_self (by have := HLEN.out; have := HC3.out; have := HC4.out; omega)
            have hfl : flatG (g1.set x5_1.toNat (⟨t2, x.1.f1⟩, x.2.1, x.2.2)) = flatG g1 := flatG_set g1 _ _ x HX.out
            have hfl2 := flatG_set (g1.set x5_1.toNat (⟨t2, x.1.f1⟩, x.2.1, x.2.2)) x5_1.toNat ⟨t2, s2⟩ _ hX2
            have hb1 : x.2.1 ∈ flatG g := by rw [← HFL.out]; exact List.mem_flatMap.2 ⟨x, List.mem_of_getElem? HX.out, by simp⟩
            have hb2 : x.2.2 ∈ flatG g := by rw [← HFL.out]; exact List.mem_flatMap.2 ⟨x, List.mem_of_getElem? HX.out, by simp⟩
            refine ⟨(g1.set x5_1.toNat (⟨t2, x.1.f1⟩, x.2.1, x.2.2)).set x5_1.toNat (⟨t2, s2⟩, x.2.1, x.2.2), s1, (wrap64 (x5_1 + 1)), (by first | rfl | (simp; done) | (simp [*]; done)), (by first | rfl | (simp; done) | (simp [*]; done)), ?_, ⟨by have := HK1.out; omega⟩, ⟨by rw [List.length_set, List.length_set]; exact HLEN.out⟩, ⟨by rw [hfl2, hfl, HFL.out]⟩, ⟨?_⟩, HB3, ⟨Nat.le_trans HK.out.1 (Nat.le_trans HK2.out.1 HK3.out.1), fun i hi hn => ?_⟩⟩
            · have h_ := H'.out
              rw [List.map_set, List.map_set, List.set_set]
              exact ⟨h_⟩
            · exact HG2.out.set1 (by rw [hfl]; exact HA1.out) x5_1.toNat _ hX2 (fun k hk hne => HK3.out.2 k hk (fun e => hne (by rw [HE2.out]; exact e))) (by rw [HE2.out]; exact HO3.out) (Nat.le_refl _)
            · have hlt1 := Nat.lt_of_lt_of_le hi HK.out.1
              rw [HK3.out.2 i (Nat.lt_of_lt_of_le hlt1 HK2.out.1) (fun e => hn ⟨_, hb2, by rw [HE2.out]; exact e.symm⟩), HK2.out.2 i hlt1 (fun e => hn ⟨_, hb1, by rw [HE1.out]; exact e.symm⟩), HK.out.2 i hi hn]
        · rw [if_neg c4] at H
          exact absurd H (by simp)
      · rw [if_neg c3] at H
        have c3b0 : decide (x5_1 < (g.length : Int)) = false := decide_eq_false c3
        clear c3
        simp only [Option.some.injEq, Prod.mk.injEq] at H
        obtain ⟨h1, h2⟩ := H
        subst h1
        go_wp2
        go_ret
        exact ⟨g1, rfl, h2, HFL.out, HG.out, HB.out, HK.out⟩

def laws_FnExactMeandersOf.Pure : Prop := ∀ (a0 : Int), (Lit.int .i64 a0).wf = true → ∃ (k : Nat) (r r' : List S44) (b : Bool) (m : Int), spec_MeandersOf.f k a0 = some (r, b) ∧ impl_MeandersOf.f k a0 = some (r, b) ∧ laws_eqMeanderS.f k r r = some true ∧ laws_markMeanderS.f k r 1 = some (m, r') ∧ laws_heldMeanderS.f k r' 1 = some m ∧ 0 ≤ m
set_option maxHeartbeats 8000000 in
set_option maxRecDepth 100000 in
theorem laws_FnExactMeandersOf.walk (P : laws_FnExactMeandersOf.Pure) (a0 : Int) (w : World) (w0 : (Lit.int .i64 a0).wf = true) :
    Calls Try.prog 12 #[.int .i64 a0] w fun e w' => e = .returned (.bool true) ∧ Below w.heap.size w w' := by
  obtain ⟨k, r, r', b, m, h1, h2, h3, h4, h5, h6⟩ := P a0 w0
  have A1 := Aside0.mk h1
  have A2 := Aside0.mk h2
  have A3 := Aside0.mk h3
  have A4 := Aside0.mk h4
  have A5 := Aside0.mk h5
  have m1 : decide (m < 0) = false := decide_eq_false (by omega)
  clear h1 h2 h3 h4 h5 h6
  have HB := Aside0.mk (Below.refl w.heap.size w)
  go_enter Try.func12, Try.ntmps12
  go_upto_region 3 with (first | ((with_reducible refine gate_callee (f := 43) rfl ?_); refine goesL_ (some 13) rfl rfl Try.func43 (by kernel_rfl) rfl #[.int .i64 a0] rfl (by (try simp only [List.map_toArray, List.map_cons, List.map_nil]); first | done | rfl) ?_; (refine (spec_MeandersOf.calls k a0 r b _ A1.out).mono ?_); rintro e w5 ⟨v3, rfl, ho, hb⟩; refine ⟨_, rfl, ?_⟩; have HW := Aside0.mk (Kd.N_mono (ok' := fun k_ => k_ < w5.heap.size) (Kd.N_bound ho) (fun k_ hk_ => hk_.2)); have n1_ := Aside0.mk (below_step HB.out hb); clear HB; have HB := n1_; clear n1_ ho hb) | ((with_reducible refine gate_callee (f := 44) rfl ?_); refine goesL_ (some 18) rfl rfl Try.func44 (by kernel_rfl) rfl #[.int .i64 a0] rfl (by (try simp only [List.map_toArray, List.map_cons, List.map_nil]); first | done | rfl) ?_; (refine (impl_MeandersOf.calls k a0 r b _ A2.out).mono ?_); rintro e w6 ⟨v5, gg, rfl, hgm, hga, ho, hgb, hb⟩; refine ⟨_, rfl, ?_⟩; have HGM := Aside0.mk hgm; have HGA := Aside0.mk hga; have HGB := Aside0.mk hgb; have HG := Aside0.mk (ho.lower (below_size HB.out) (below_size HB.out)); have HGV := Aside0.mk (Kd.R_base ho.row); have n1_ := Aside0.mk (below_step HB.out hb); have n2_ := Aside0.mk (Kd.N_below HW.out hb); clear HB HW; have HB := n1_; have HW := n2_; clear n1_ n2_ ho hb hgm hga hgb))
  (try simp only [Act.put, List.setIfInBounds_toArray, List.set_cons_zero, List.set_cons_succ])
  obtain ⟨A5_, c5_, e5_, l5_, r5_⟩ := HG.out.reads
  rw [HGM.out] at e5_ l5_ r5_
  subst e5_
  have HG5 := Aside0.mk l5_
  have HG6 := Aside0.mk r5_
  clear l5_ r5_
  obtain ⟨A3_, c3_, e3_⟩ := Kd.N_slice HW.out
  subst e3_
  go_upto_region 6 with (first | ((with_reducible refine gate_callee (f := 45) rfl ?_); refine goesL_ (some 23) rfl rfl Try.func45 (by kernel_rfl) rfl #[.slice A5_ r.length c5_, .slice A3_ r.length c3_] rfl (by (try simp only [List.map_toArray, List.map_cons, List.map_nil]); first | done | rfl) ?_; (refine (laws_eqMeanderS.calls k _ _ r _ _ r true _ HG6.out HG5.out (Kd.N_reads' HW.out).2.2 (Kd.N_reads' HW.out).2.1 A3.out).mono ?_); rintro e w7 ⟨rfl, hb⟩; refine ⟨_, rfl, ?_⟩; have n1_ := Aside0.mk (below_step HB.out hb); have n2_ := Aside0.mk (Kd.N_below HW.out hb); have n3_ := Aside0.mk (HG.out.below hb); clear HB HW HG HG5 HG6; have HB := n1_; have HW := n2_; have HG := n3_; clear n1_ n2_ n3_ hb))
  (try simp only [Act.put, List.setIfInBounds_toArray, List.set_cons_zero, List.set_cons_succ])
  go_upto_region 8 with (first | ((with_reducible refine gate_callee (f := 46) rfl ?_); refine goesL_ (some 32) rfl rfl Try.func46 (by kernel_rfl) rfl #[.slice A5_ r.length c5_, .int .i64 1] rfl (by (try simp only [List.map_toArray, List.map_cons, List.map_nil]); first | done | rfl) ?_; (refine (laws_markMeanderS.calls k _ gg 1 m r' w _ HB.out HG.out HGA.out (by rw [HGM.out]; exact A4.out)).mono ?_); rintro e w8 ⟨g2, rfl, hgm2, hfl, ho, hb, hk⟩; refine ⟨_, rfl, ?_⟩; have HGM2 := Aside0.mk hgm2; have HFL := Aside0.mk hfl; have n1_ := Aside0.mk ho; have n2_ := Aside0.mk (Kd.N_step HW.out (fun k_ hk_ hlt_ => hk.2 k_ hlt_ (fun hb_ => by obtain ⟨u, hu, hu2⟩ := hb_; have := HGB.out u hu k_ hu2; omega))); have n3_ := Aside0.mk hb; clear HG HW HB; have HG := n1_; have HW := n2_; have HB := n3_; clear n1_ n2_ n3_ ho hb hk hgm2 hfl))
  (try simp only [Act.put, List.setIfInBounds_toArray, List.set_cons_zero, List.set_cons_succ])
  have hln : r'.length = r.length := by
    obtain ⟨A_, c_, e_, _, _⟩ := HG.out.reads
    injection e_ with _ e2 _
    rw [HGM2.out] at e2
    exact e2.symm
  have HLN := Aside0.mk hln
  clear hln
  have HH := Aside0.mk (fun (W : World) (hg : GLs w.heap.size W w.heap.size (.slice A5_ r.length c5_) g2) => (show Calls Try.prog 47 #[.slice A5_ r.length c5_, .int .i64 1] W fun e w' => e = .returned (.int .i64 m) ∧ Drawn0 W w' from by
    obtain ⟨A_, c_, e_, l_, r_⟩ := hg.reads
    rw [HGM2.out] at e_ l_ r_
    injection e_ with e1 e2 e3
    subst e1
    subst e3
    have h_ := laws_heldMeanderS.calls k A5_ c5_ r' 1 m W r_ l_ A5.out
    rw [HLN.out] at h_
    exact h_))
  go_upto_region 13 with (first | ((with_reducible refine gate_callee (f := 47) rfl ?_); refine goesL_ (some 35) rfl rfl Try.func47 (by kernel_rfl) rfl #[.slice A5_ r.length c5_, .int .i64 1] rfl (by (try simp only [List.map_toArray, List.map_cons, List.map_nil]); first | done | rfl) ?_; (refine (HH.out _ HG.out).mono ?_); rintro e w' ⟨rfl, ⟨nd2, rfl⟩⟩; refine ⟨_, rfl, ?_⟩))
  (try simp only [Act.put, List.setIfInBounds_toArray, List.set_cons_zero, List.set_cons_succ])
  go_upto_region 14 with (first | ((with_reducible refine gate_callee (f := 44) rfl ?_); refine goesL_ (some 43) rfl rfl Try.func44 (by kernel_rfl) rfl #[.int .i64 a0] rfl (by (try simp only [List.map_toArray, List.map_cons, List.map_nil]); first | done | rfl) ?_; (refine (impl_MeandersOf.calls k a0 r b _ A2.out).mono ?_); rintro e w9 ⟨v9, g9, rfl, hgm9, hga9, ho, hgb9, hb⟩; refine ⟨_, rfl, ?_⟩; have HGM9 := Aside0.mk hgm9; have n1_ := Aside0.mk ((HG.out.below (pw_below_drewN (Below.refl _ _) nd2)).below hb); have n2_ := Aside0.mk (Kd.N_below (Kd.N_drewN HW.out nd2) hb); have n3_ := Aside0.mk (below_step (pw_below_drewN HB.out nd2) hb); have HN := Aside0.mk ho; clear HG HW HB; have HG := n1_; have HW := n2_; have HB := n3_; clear n1_ n2_ n3_ ho hb hgm9 hga9 hgb9))
  (try simp only [Act.put, List.setIfInBounds_toArray, List.set_cons_zero, List.set_cons_succ])
  obtain ⟨A9_, c9_, e9_, l9_, r9_⟩ := HN.out.reads
  rw [HGM9.out] at e9_ l9_ r9_
  subst e9_
  have HG5 := Aside0.mk l9_
  have HG6 := Aside0.mk r9_
  clear l9_ r9_
  go_upto_region 17 with (first | ((with_reducible refine gate_callee (f := 45) rfl ?_); refine goesL_ (some 48) rfl rfl Try.func45 (by kernel_rfl) rfl #[.slice A9_ r.length c9_, .slice A3_ r.length c3_] rfl (by (try simp only [List.map_toArray, List.map_cons, List.map_nil]); first | done | rfl) ?_; (refine (laws_eqMeanderS.calls k _ _ r _ _ r true _ HG6.out HG5.out (Kd.N_reads' HW.out).2.2 (Kd.N_reads' HW.out).2.1 A3.out).mono ?_); rintro e w10 ⟨rfl, hb⟩; refine ⟨_, rfl, ?_⟩; have n1_ := Aside0.mk (below_step HB.out hb); have n3_ := Aside0.mk (HG.out.below hb); clear HB HG; have HB := n1_; have HG := n3_; clear n1_ n3_ hb))
  (try simp only [Act.put, List.setIfInBounds_toArray, List.set_cons_zero, List.set_cons_succ])
  go_wp2_with (first | ((with_reducible refine gate_callee (f := 47) rfl ?_); refine goesL_ (some 57) rfl rfl Try.func47 (by kernel_rfl) rfl #[.slice A5_ r.length c5_, .int .i64 1] rfl (by (try simp only [List.map_toArray, List.map_cons, List.map_nil]); first | done | rfl) ?_; (refine (HH.out _ HG.out).mono ?_); rintro e w' ⟨rfl, ⟨nd4, rfl⟩⟩; refine ⟨_, rfl, ?_⟩))
  go_ret
  exact ⟨rfl, by repeat (first | exact HB.out | apply below_alloc | apply pw_below_drewN | apply below_drew1)⟩

end Go.Proofs.Ytpepnlcelllhkaa.QFnExactMeandersOf
