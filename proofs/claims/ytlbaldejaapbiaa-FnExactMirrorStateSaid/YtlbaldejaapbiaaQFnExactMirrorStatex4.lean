-- Written by wip/myprint.py (a program of mine round the kit's printer). Lean checks it.
import Derived.Test.YtlbaldejaapbiaaQFnExactMirrorStatex0
namespace Go.Proofs.Ytlbaldejaapbiaa.QFnExactMirrorState
open Go.RowKit Go.Proofs.YtlbaldejaapbiaaW.PrintWords Go.Proofs.YtlbaldejaapbiaaW.PrintLast Go.Proofs.YtlbaldejaapbiaaW.PrintMore
attribute [local go_sem] max2_int min2_int max_two min_two max_three min_three max_four min_four   -- for this text's walks alone
set_option linter.unusedVariables false
set_option linter.unusedSimpArgs false

/-! ### impl_in: function 56 -/
def impl_in.f (a0 : Int) (a1 : Int) (a2 : Int) : Option (Bool) := if a1 ≤ a0 then (some (decide (a0 ≤ a2))) else (some false)
set_option maxHeartbeats 8000000 in
set_option maxRecDepth 100000 in
theorem impl_in.calls (a0 : Int) (a1 : Int) (a2 : Int) (r : Bool) (w : World) (h : impl_in.f a0 a1 a2 = some r) :
    Calls Try.prog 56 #[.int .i64 a0, .int .i64 a1, .int .i64 a2] w fun e w' => e = .returned (.bool r) ∧ Drawn0 w w' := by
  have H : (if a1 ≤ a0 then (some (decide (a0 ≤ a2))) else (some false)) = some r := h
  clear h
  by_cases c4 : a1 ≤ a0
  · rw [if_pos c4] at H
    have c4b0 : decide (a1 ≤ a0) = true := decide_eq_true c4
    clear c4
    obtain rfl := Option.some.inj H
    go_enter Try.func56, Try.ntmps56
    go_wp2
    go_ret
    exact ⟨by first | rfl | (simp; done) | (simp [*]; done), by repeat (first | exact Drawn0.refl _ | apply Drawn0.step)⟩
  · rw [if_neg c4] at H
    have c4b0 : decide (a1 ≤ a0) = false := decide_eq_false c4
    clear c4
    obtain rfl := Option.some.inj H
    go_enter Try.func56, Try.ntmps56
    go_wp2
    go_ret
    exact ⟨by first | rfl | (simp; done) | (simp [*]; done), by repeat (first | exact Drawn0.refl _ | apply Drawn0.step)⟩

/-! ### impl_isArches: function 39 -/
def impl_isArches.f (a0 : Int) : Option (Bool) := (impl_in.f a0 0 6).bind fun t202 => (some t202)
set_option maxHeartbeats 8000000 in
set_option maxRecDepth 100000 in
theorem impl_isArches.calls (a0 : Int) (r : Bool) (w : World) (h : impl_isArches.f a0 = some r) :
    Calls Try.prog 39 #[.int .i64 a0] w fun e w' => e = .returned (.bool r) ∧ Drawn0 w w' := by
  have H : ((impl_in.f a0 0 6).bind fun t202 => (some t202)) = some r := h
  clear h
  replace H := Option.bind_eq_some_iff.mp H
  obtain ⟨t202, A20, H⟩ := H
  replace H : (some t202) = some r := H
  have A2 := Aside0.mk A20
  clear A20
  obtain rfl := Option.some.inj H
  go_enter Try.func39, Try.ntmps39
  go_wp2_with (first | ((with_reducible refine gate_callee (f := 56) rfl ?_); refine goesL_ (some 4) rfl rfl Try.func56 (by kernel_rfl) rfl #[.int .i64 a0, .int .i64 0, .int .i64 6] rfl (by (try simp only [List.map_toArray, List.map_cons, List.map_nil]); first | done | rfl | (simp only [List.length_drop, List.length_take]; rfl)) ?_; (with_reducible refine (impl_in.calls a0 0 6 t202 _ A2.out).mono ?_); rintro e w' ⟨rfl, ⟨nd, rfl⟩⟩; refine ⟨_, rfl, ?_⟩))
  go_ret
  exact ⟨by first | rfl | (simp; done) | (simp [*]; done), by repeat (first | exact Drawn0.refl _ | apply Drawn0.step)⟩

/-! ### slices_Clone_int_int: function 40 (by hand) -/
theorem Kd_nil {w : World} {l : List Int} (h : Kd.C (Kd.int .i64) w none l.length l) : l = [] := by
  rcases l with _ | ⟨x, l⟩
  · rfl
  · obtain ⟨ad, e, _⟩ := Kd.at_int h 0 (by omega) (by first | (simp; done) | (simp; omega))
    cases e
/-! ### slices_Clone_int_int: function 40 -/
def slices_Clone_int_int.f (l0 : List Int) : Option (List Int) := (some (([] : List Int) : List Int)).bind fun y203 => (if y203.length + l0.length < 17592186044416 then (some (y203 ++ l0)) else (none))
set_option maxHeartbeats 8000000 in
set_option maxRecDepth 100000 in
theorem slices_Clone_int_int.calls (A0 : Option Addr) (c0 : Nat) (l0 : List Int) (r : List Int) (w : World) (hr0 : Kd.C (Kd.int .i64) w A0 l0.length l0) (hc0 : l0.length ≤ c0) (h : slices_Clone_int_int.f l0 = some r) :
    Calls Try.prog 40 #[.slice A0 l0.length c0] w fun e w' => ∃ v0_ : Value, e = .returned (v0_) ∧ Kd.R (Kd.int .i64) 3 w' w.heap.size (fun _ => True) v0_ r ∧ Below w.heap.size w w' := by
  have HR0 := Aside0.mk hr0
  have HC0 := Aside0.mk hc0
  clear hr0 hc0
  have HB := Aside0.mk (Below.refl w.heap.size w)
  have H : ((some (([] : List Int) : List Int)).bind fun y203 => (if y203.length + l0.length < 17592186044416 then (some (y203 ++ l0)) else (none))) = some r := h
  clear h
  obtain ⟨y203, hy203⟩ : ∃ y_ : List Int, y_ = (([] : List Int)) := ⟨_, rfl⟩
  replace H : (if y203.length + l0.length < 17592186044416 then (some (y203 ++ l0)) else (none)) = some r := by first | (rw [hy203]; with_reducible exact H) | (have H2_ := (Option.bind_some _ _).symm.trans H; rw [hy203]; with_reducible exact H2_) | (have H2_ := (Option.bind_some _ _).symm.trans H; with_reducible exact H2_) | with_reducible exact H | (rw [hy203]; exact H) | exact H
  have Ny203 := Aside0.mk hy203
  clear hy203
  by_cases c2 : y203.length + l0.length < 17592186044416
  · rw [if_pos c2] at H
    have LMc2 := Aside0.mk c2
    clear c2
    obtain ⟨y206, hy206⟩ : ∃ y_ : List Int, y_ = (y203 ++ l0) := ⟨_, rfl⟩
    replace H : (some y206) = some r := by first | (rw [hy206]; with_reducible exact H) | (have H2_ := (Option.bind_some _ _).symm.trans H; rw [hy206]; with_reducible exact H2_) | (have H2_ := (Option.bind_some _ _).symm.trans H; with_reducible exact H2_) | with_reducible exact H | (rw [hy206]; exact H) | exact H
    have Ny206 := Aside0.mk hy206
    clear hy206
    obtain rfl := Option.some.inj H
    have q22 : ∀ (w : World) (a : Option Addr) (n c n' c' : Nat), (binOp .eql 22 (.slice a n c) (.slice none n' c')).run Try.prog w = .ok (.bool a.isNone) w := fun w a n c n' c' => Go.Lib.run_eql_slice_nil w _ _ a n c n' c' Try.underlying22
    rcases A0 with _ | A0
    · have hl0 : l0 = [] := Kd_nil HR0.out
      subst hl0
      go_enter Try.func40, Try.ntmps40
      go_wp2
      go_ret
      have hy : y206 = [] := by rw [Ny206.out, Ny203.out]; rfl
      rw [hy]
      exact ⟨_, rfl, Kd.R_nil _ _ _ _ _, HB.out⟩
    go_enter Try.func40, Try.ntmps40
    go_wp2_with (first | ((with_reducible refine gate_dst (N := 5) rfl ?_); refine Kd.R_lit (Kd.int .i64) _ 3 ?hg (N := 5) ?hd (xs := ([] : List Int)) (inner := []) (ok := fun _ => True) (okp := fun _ => True) ?hr ?hp (fun _ hk => hk) trivial (Below.refl _ _) (Nat.le_refl _) (by simp) ?_; (case hd => rfl); (case hg => rfl); (case hr => first | (go_simp; done) | (go_simp; rfl)); (case hp => exact (Reps.none _ _)); intro v204 w3 ho4 hb hg_ hnew_; clear hg_ hnew_; (first | rw [← Ny203.out] at ho4 | (simp only [Int.reduceToNat] at ho4; rw [← Ny203.out] at ho4)); have n0_ := Aside0.mk (Kd.R_lower ho4 (below_size (by repeat (first | (with_reducible first | exact HB.out | apply below_alloc | apply pw_below_drewN | apply below_drew1) | exact HB.out)))); have n1_ := Aside0.mk (below_step (by repeat (first | (with_reducible first | exact HB.out | apply below_alloc | apply pw_below_drewN | apply below_drew1) | exact HB.out)) hb); clear HB; have HO205 := n0_; have HB := n1_; clear n0_ n1_; clear hb ho4) | ((with_reducible refine gate_builtin (b := .append) (xs := #[.tmp 5, .tmp 6]) rfl ?_); at_builtin; refine Kd.R_append_rows (Kd.int .i64) (w0 := w) w.heap.size rfl (.tmp 5) (.tmp 6) 22 3 (.int .i64 0) 8 rfl Try.underlying22 info3 rfl (by decide) (by omega) v204 y203 l0 _ _ _ (fun _ => True) (fun _ => False) rfl rfl ?aO ?aR (fun _ _ h => h) (fun _ h => h.elim) ?aF ?aB ?aS ?aL ?_; (case aR => repeat (first | exact (Kd.C_below HR0.out HB.out) | (with_reducible refine Kd.C_alloc ?_ _) | (with_reducible refine Kd.C_drewN ?_ _) | (with_reducible refine Kd.C_drew ?_))); (case aB => exact (by repeat (first | (with_reducible first | exact HB.out | apply below_alloc | apply pw_below_drewN | apply below_drew1) | exact HB.out))); (case aF => exact (fun _ _ => trivial)); (case aO => exact (by (with_reducible repeat (first | apply Kd.R_alloc | apply Kd.R_drewN | apply Kd.R_drew)); exact HO205.out)); (case aS => exact (below_size (by repeat (first | (with_reducible first | exact HB.out | apply below_alloc | apply pw_below_drewN | apply below_drew1) | exact HB.out)))); (case aL => have := LMc2.out; omega); intro v207 w5 ho hb hg hat; rw [← Ny206.out] at ho; have n0_ := Aside0.mk (hb); have n1_ := Aside0.mk (ho); clear HB; clear HO205; have HB := n0_; have HO208 := n1_; clear n0_ n1_; clear ho hb hg hat))
    go_ret
    exact ⟨_, by first | rfl | (simp [errW_none, errW_some] <;> rfl) | (simp [*, errW_none, errW_some] <;> rfl), by (with_reducible repeat (first | apply Kd.R_alloc | apply Kd.R_drewN | apply Kd.R_drew)); exact HO208.out, by repeat (first | (with_reducible first | exact HB.out | apply below_alloc | apply pw_below_drewN | apply below_drew1) | exact HB.out)⟩
  · rw [if_neg c2] at H
    exact absurd H (by simp)

/-! ### slices_Reverse_int_int: function 41 -/
def slices_Reverse_int_int.l0 : Nat → List Int → Int → Int → Option (List Int)
  | 0, _, _, _ => none
  | k + 1, x0, x2, x3 => if x2 < x3 then (if 0 ≤ x3 then (if x3 < (x0.length : Int) then (if 0 ≤ x2 then (if x2 < (x0.length : Int) then (slices_Reverse_int_int.l0 k ((x0.set (x2 : Int).toNat (rd x0 x3)).set (x3 : Int).toNat (rd x0 x2)) (wrap64 (x2 + 1)) (wrap64 (x3 - 1))) else (none)) else (none)) else (none)) else (none)) else (some x0)
def slices_Reverse_int_int.f (k : Nat) (l0 : List Int) : Option (List Int) := slices_Reverse_int_int.l0 k l0 0 (wrap64 ((l0.length : Int) - 1))
theorem slices_Reverse_int_int.mono_l : ∀ k, (∀ y0 y1 y2, LeO (slices_Reverse_int_int.l0 k y0 y1 y2) (slices_Reverse_int_int.l0 (k + 1) y0 y1 y2))
  | 0 => fun _ _ _ r h => by simp [slices_Reverse_int_int.l0] at h
  | k + 1 => by
    have ih0 := slices_Reverse_int_int.mono_l k
    · intro y0 y1 y2
      unfold slices_Reverse_int_int.l0
      repeat' first
      | (with_reducible exact ih0 _ _ _)
      | (with_reducible exact LeO.refl _)
      | (with_reducible exact LeO.none _)
      | (with_reducible refine LeO.ite ?_ ?_)
      | (with_reducible refine LeO.bind ?_ (fun _ => ?_))
      | exact ih0 _ _ _
      | exact LeO.none _
      | refine LeO.ite ?_ ?_
      | refine LeO.bind ?_ (fun _ => ?_)
theorem slices_Reverse_int_int.mono : ∀ a0 k, LeO (slices_Reverse_int_int.f k a0) (slices_Reverse_int_int.f (k + 1) a0) := by
  intro a0 k
  have ih0 := slices_Reverse_int_int.mono_l k
  unfold slices_Reverse_int_int.f
  repeat' first
      | (with_reducible exact ih0 _ _ _)
      | (with_reducible exact LeO.refl _)
      | (with_reducible exact LeO.none _)
      | (with_reducible refine LeO.ite ?_ ?_)
      | (with_reducible refine LeO.bind ?_ (fun _ => ?_))
      | exact ih0 _ _ _
      | exact LeO.none _
      | refine LeO.ite ?_ ?_
      | refine LeO.bind ?_ (fun _ => ?_)
def slices_Reverse_int_int.T3 : Bool × List (List Nat × List Nat) := (true, [([], []), ([], []), ([], []), ([], []), ([], []), ([], []), ([4, 5], [4, 5]), ([6], [6]), ([], []), ([], []), ([8, 9], [8, 9]), ([10], [10]), ([0, 1, 0, 1, 4, 5, 6, 7, 11], [0, 1]), ([12, 7, 0, 1, 4, 5, 6, 7, 11], [7, 12]), ([2, 3, 0, 1, 2, 3, 4, 5, 6, 7, 8, 9, 10, 11, 12, 13], [2, 3]), ([14, 11, 13, 0, 1, 2, 3, 4, 5, 6, 7, 8, 9, 10, 11, 12, 13], [11, 14])])
def slices_Reverse_int_int.B3 : List Nat := [0, 0, 0, 0, 0, 0, 48, 112, 0, 0, 768, 1792, 4083, 8179, 16383, 32767]
theorem slices_Reverse_int_int.tab3 : rtab .any (opsOf Try.f41 3) = slices_Reverse_int_int.T3 := by kernel_rfl
theorem slices_Reverse_int_int.bits3 : waitsOk slices_Reverse_int_int.T3.2 slices_Reverse_int_int.B3 = true := by kernel_rfl
set_option maxHeartbeats 8000000 in
set_option maxRecDepth 100000 in
theorem slices_Reverse_int_int.calls (k : Nat) (P0_ : Nat → Prop) (u9000_ : Value) (l0 : List Int) (r : List Int) (w0 w : World) (hB : Below w0.heap.size w0 w) (ho0 : Kd.R (Kd.int .i64) 3 w w0.heap.size P0_ u9000_ l0) (h : slices_Reverse_int_int.f k l0 = some r) :
    Calls Try.prog 41 #[u9000_] w fun e w' => e = .returned (.tuple #[]) ∧ Kd.R (Kd.int .i64) 3 w' w0.heap.size (fun k_ => (P0_ k_ ∨ w.heap.size ≤ k_)) u9000_ r ∧ Below w0.heap.size w0 w' ∧ Kept w w' (fun k_ => P0_ k_) := by
  have HO0 := Aside0.mk (show Kd.R (Kd.int .i64) 3 w w0.heap.size (fun k_ => (P0_ k_ ∨ w.heap.size ≤ k_)) u9000_ l0 from Kd.R_mono ho0 (fun k_ hk => (.inl hk)))
  have HK := Aside0.mk (Kept.refl w (fun k_ => P0_ k_))
  have HW0 := Aside0.mk hB.size
  have HB := Aside0.mk hB
  clear hB
  have H : (slices_Reverse_int_int.l0 k l0 0 (wrap64 ((l0.length : Int) - 1))) = some r := h
  clear h
  have H' := Aside0.mk H
  clear H
  obtain ⟨Ao2, co2, eo2⟩ := Kd.R_slice HO0.out
  subst eo2
  go_enter Try.func41, Try.ntmps41
  go_wp2
  go_loopg [2, 3] k (fun kq v2 v3 w' => ∃ (x0_1 : List Int) (x2_1 : Int) (x3_1 : Int), v2 = .int .i64 x2_1 ∧ v3 = .int .i64 x3_1 ∧ Aside0 (slices_Reverse_int_int.l0 kq x0_1 x2_1 x3_1 = some r) ∧ Aside0 (kq ≤ k) ∧ Aside0 (Kd.R (Kd.int .i64) 3 w' w0.heap.size (fun k_ => (P0_ k_ ∨ w.heap.size ≤ k_)) (.slice Ao2 l0.length co2) x0_1) ∧ Aside0 (Kept w w' (fun k_ => P0_ k_)) ∧ Aside0 (Below w0.heap.size w0 w'))
  case atStart => exact ⟨(l0), (0), (wrap64 ((l0.length : Int) - 1)), (by first | rfl | (simp; done) | (simp [*]; done)), (by first | rfl | (simp; done) | (simp [*]; done)), H', ⟨Nat.le_refl _⟩, ⟨by (with_reducible repeat (first | apply Kd.R_alloc | apply Kd.R_drewN | apply Kd.R_drew)); exact HO0.out⟩, ⟨by repeat (first | (with_reducible first | exact HK.out | apply Kept.alloc | apply Kept.drewN | apply Kept.drew) | exact HK.out)⟩, ⟨by repeat (first | (with_reducible first | exact HB.out | apply below_alloc | apply pw_below_drewN | apply below_drew1) | exact HB.out)⟩⟩
  case round =>
    clear H'
    try clear p2
    obtain ⟨x0_1, x2_1, x3_1, rfl, rfl, HA, HK1, HO_0, HK, HB⟩ := hrel
    have hl0_1 := (Kd.R_reads' HO_0.out).1
    rw [hl0_1] at HO_0
    (try simp only [hl0_1])
    cases gk with
    | zero => exact absurd HA.out (by simp [slices_Reverse_int_int.l0])
    | succ k1 =>
      have H := HA.out
      clear HA
      simp only [slices_Reverse_int_int.l0] at H
      by_cases c3 : x2_1 < x3_1
      · rw [if_pos c3] at H
        have c3b0 : decide (x2_1 < x3_1) = true := decide_eq_true c3
        clear c3
        by_cases c4 : 0 ≤ x3_1
        · rw [if_pos c4] at H
          have c4b0 : decide (0 ≤ x3_1) = true := decide_eq_true c4
          clear c4
          by_cases c5 : x3_1 < (x0_1.length : Int)
          · rw [if_pos c5] at H
            have c5b0 : decide (x3_1 < (x0_1.length : Int)) = true := decide_eq_true c5
            clear c5
            by_cases c6 : 0 ≤ x2_1
            · rw [if_pos c6] at H
              have c6b0 : decide (0 ≤ x2_1) = true := decide_eq_true c6
              clear c6
              by_cases c7 : x2_1 < (x0_1.length : Int)
              · rw [if_pos c7] at H
                have c7b0 : decide (x2_1 < (x0_1.length : Int)) = true := decide_eq_true c7
                clear c7
                obtain ⟨y211, hy211⟩ : ∃ y_ : List Int, y_ = (x0_1.set (x2_1 : Int).toNat (rd x0_1 x3_1)) := ⟨_, rfl⟩
                replace H : (slices_Reverse_int_int.l0 k1 (y211.set (x3_1 : Int).toNat (rd x0_1 x2_1)) (wrap64 (x2_1 + 1)) (wrap64 (x3_1 - 1))) = some r := by first | (rw [hy211]; with_reducible exact H) | (have H2_ := (Option.bind_some _ _).symm.trans H; rw [hy211]; with_reducible exact H2_) | (have H2_ := (Option.bind_some _ _).symm.trans H; with_reducible exact H2_) | with_reducible exact H | (rw [hy211]; exact H) | exact H
                have Ny211 := Aside0.mk hy211
                clear hy211
                obtain ⟨y212, hy212⟩ : ∃ y_ : List Int, y_ = (y211.set (x3_1 : Int).toNat (rd x0_1 x2_1)) := ⟨_, rfl⟩
                replace H : (slices_Reverse_int_int.l0 k1 y212 (wrap64 (x2_1 + 1)) (wrap64 (x3_1 - 1))) = some r := by first | (rw [hy212]; with_reducible exact H) | (have H2_ := (Option.bind_some _ _).symm.trans H; rw [hy212]; with_reducible exact H2_) | (have H2_ := (Option.bind_some _ _).symm.trans H; with_reducible exact H2_) | with_reducible exact H | (rw [hy212]; exact H) | exact H
                have Ny212 := Aside0.mk hy212
                clear hy212
                have H' := Aside0.mk H
                clear H
                try go_wp2
                have n0_ := Aside0.mk (Kd.R_drew HO_0.out)
                have n1_ := Aside0.mk (Kept.drew HK.out)
                have n2_ := Aside0.mk (below_drew1 HB.out)
                clear HO_0
                clear HK
                clear HB
                have HO_0 := n0_
                have HK := n1_
                have HB := n2_
                clear n0_ n1_ n2_
                have p209 : 0 ≤ (x3_1 : Int) := of_decide_eq_true (by first | (with_reducible assumption) | assumption)
                have q209 : x3_1 < (x0_1.length : Int) := of_decide_eq_true (by first | (with_reducible assumption) | assumption)
                obtain ⟨ad209, e209, hx209_0⟩ := Kd.at_int (Kd.R_reads' HO_0.out).2.2 x3_1 p209 q209
                cases e209
                replace p209 := eq_true p209
                replace q209 := eq_true q209
                have p210 : 0 ≤ (x2_1 : Int) := of_decide_eq_true (by first | (with_reducible assumption) | assumption)
                have q210 : x2_1 < (x0_1.length : Int) := of_decide_eq_true (by first | (with_reducible assumption) | assumption)
                obtain ⟨ad210, e210, hx210_0⟩ := Kd.at_int (Kd.R_reads' HO_0.out).2.2 x2_1 p210 q210
                obtain rfl : ad209 = ad210 := (by injection e210)
                replace p210 := eq_true p210
                replace q210 := eq_true q210
                have p8 : 0 ≤ (x2_1 : Int) := of_decide_eq_true (by first | (with_reducible assumption) | assumption)
                have q8 : (x2_1 : Int) < ((x0_1.length : Int) : Int) := of_decide_eq_true (by first | (with_reducible assumption) | assumption)
                obtain ⟨go8, co8, eo8, gb8, gl8, cl8, HG8⟩ := Kd.R_form HO_0.out (by omega)
                (first | cases eo8 | (injection eo8 with ea_ en_ ec_; (first | subst ea_ | (injection ea_ with ea_; subst ea_)); subst ec_; clear en_))
                have GB8 := Aside0.mk gb8
                have GG8 := Aside0.mk HG8
                clear gb8 gl8 HG8
                have HMgo8 := Aside0.mk (show (P0_ go8 ∨ w.heap.size ≤ go8) from (HO_0.out.1 _ rfl))
                (first | simp only [add_plain] at hx209_0 | skip)
                (first | simp only [add_plain] at hx210_0 | skip)
                obtain ⟨hx8_0, hf8_0⟩ := Kd.R_celln 0 HO_0.out (x2_1 : Int) p8 q8
                replace p8 := eq_true p8
                replace q8 := eq_true q8
                have HP11 := Kd.R_putn HO_0.out (x2_1 : Int) (rd x0_1 x3_1)
                rw [← Ny211.out] at HP11
                have HQ11 := Aside0.mk HP11
                clear HP11
                have p9 : 0 ≤ (x3_1 : Int) := of_decide_eq_true (by first | (with_reducible assumption) | assumption)
                have q9 : (x3_1 : Int) < ((x0_1.length : Int) : Int) := of_decide_eq_true (by first | (with_reducible assumption) | assumption)
                obtain ⟨hx9_0, hf9_0⟩ := Kd.R_celln 0 HQ11.out (x3_1 : Int) p9 q9
                replace p9 := eq_true p9
                replace q9 := eq_true q9
                have HP12 := Kd.R_putn HQ11.out (x3_1 : Int) (rd x0_1 x2_1)
                rw [← Ny212.out] at HP12
                have HQ12 := Aside0.mk HP12
                clear HP12
                refine start_ (n := 16) (S := fun w' => w'.cell? ⟨go8, (x3_1).toNat, none⟩ = some (.int .i64 (rd x0_1 x3_1)) ∧ w'.cell? ⟨go8, (x2_1).toNat, none⟩ = some (.int .i64 (rd x0_1 x2_1))) (ds := [13, 15]) #[false, false, false, false, false, false, false, false, false, false, false, false, false, false, false, false] (by kernel_rfl) rfl rfl ⟨hx209_0, hx210_0⟩ (fun hHeld => ?_); refine with_tabW slices_Reverse_int_int.tab3 slices_Reverse_int_int.bits3 (fun HT_ HW_ => ?_)
                generalize wr.drew = w10 at HO_0 HK HB GG8 HQ11 HQ12 hf8_0 hf9_0 hx209_0 hx210_0 hx8_0 hx9_0 hHeld ⊢
                refine pure_ (i := 0) (N := some 14) (v := ?_) (a' := ?_) #[true, false, false, false, false, false, false, false, false, false, false, false, false, false, false, false] rfl rfl (any_of HT_.out (by kernel_rfl)) (fun _ _ _ h => h) (Or.inl ⟨by rfl, ?_⟩) ?_ ?_
                rotate_left
                · intro w'
                  go_simp
                  with_reducible rfl
                rotate_left
                · simp only [Act.put, List.setIfInBounds_toArray, List.set_cons_zero, List.set_cons_succ, i64_w, i32_w]
                  rfl
                refine pure_ (i := 1) (N := some 15) (v := ?_) (a' := ?_) #[true, true, false, false, false, false, false, false, false, false, false, false, false, false, false, false] rfl rfl (any_of HT_.out (by kernel_rfl)) (fun _ _ _ h => h) (Or.inl ⟨by rfl, ?_⟩) ?_ ?_
                rotate_left
                · intro w'
                  go_simp
                  with_reducible rfl
                rotate_left
                · simp only [Act.put, List.setIfInBounds_toArray, List.set_cons_zero, List.set_cons_succ, i64_w, i32_w]
                  rfl
                refine pure_ (i := 2) (N := some 16) (v := ?_) (a' := ?_) #[true, true, true, false, false, false, false, false, false, false, false, false, false, false, false, false] rfl rfl (any_of HT_.out (by kernel_rfl)) (fun _ _ _ h => h) (Or.inl ⟨by rfl, ?_⟩) ?_ ?_
                rotate_left
                · intro w'
                  go_simp
                  with_reducible rfl
                rotate_left
                · simp only [Act.put, List.setIfInBounds_toArray, List.set_cons_zero, List.set_cons_succ, i64_w, i32_w]
                  rfl
                refine pure_ (i := 3) (N := some 17) (v := ?_) (a' := ?_) #[true, true, true, true, false, false, false, false, false, false, false, false, false, false, false, false] rfl rfl (any_of HT_.out (by kernel_rfl)) (fun _ _ _ h => h) (Or.inl ⟨by rfl, ?_⟩) ?_ ?_
                rotate_left
                · intro w'
                  go_simp
                  with_reducible rfl
                rotate_left
                · simp only [Act.put, List.setIfInBounds_toArray, List.set_cons_zero, List.set_cons_succ, i64_w, i32_w]
                  rfl
                refine pure_ (i := 4) (N := some 18) (v := ?_) (a' := ?_) #[true, true, true, true, true, false, false, false, false, false, false, false, false, false, false, false] rfl rfl (any_of HT_.out (by kernel_rfl)) (fun _ _ _ h => h) (Or.inl ⟨by rfl, ?_⟩) ?_ ?_
                rotate_left
                · intro w'
                  go_simp
                  with_reducible rfl
                rotate_left
                · simp only [Act.put, List.setIfInBounds_toArray, List.set_cons_zero, List.set_cons_succ, i64_w, i32_w]
                  rfl
                refine pure_ (i := 5) (N := some 19) (v := ?_) (a' := ?_) #[true, true, true, true, true, true, false, false, false, false, false, false, false, false, false, false] rfl rfl (any_of HT_.out (by kernel_rfl)) (fun _ _ _ h => h) (Or.inl ⟨by rfl, ?_⟩) ?_ ?_
                rotate_left
                · intro w'
                  go_simp
                  with_reducible rfl
                rotate_left
                · simp only [Act.put, List.setIfInBounds_toArray, List.set_cons_zero, List.set_cons_succ, i64_w, i32_w]
                  rfl
                refine pure_ (i := 6) (N := some 20) (v := ?_) (a' := ?_) #[true, true, true, true, true, true, true, false, false, false, false, false, false, false, false, false] rfl rfl (any_of HT_.out (by kernel_rfl)) (fun _ _ _ h => h) (Or.inl ⟨by rfl, ?_⟩) ?_ ?_
                rotate_left
                · intro w'
                  go_simp
                  with_reducible rfl
                rotate_left
                · simp only [Act.put, List.setIfInBounds_toArray, List.set_cons_zero, List.set_cons_succ, i64_w, i32_w]
                  rfl
                refine pure_ (i := 8) (N := some 22) (v := ?_) (a' := ?_) #[true, true, true, true, true, true, true, false, true, false, false, false, false, false, false, false] rfl rfl (any_of HT_.out (by kernel_rfl)) (fun _ _ _ h => h) (Or.inl ⟨by rfl, ?_⟩) ?_ ?_
                rotate_left
                · intro w'
                  go_simp
                  with_reducible rfl
                rotate_left
                · simp only [Act.put, List.setIfInBounds_toArray, List.set_cons_zero, List.set_cons_succ, i64_w, i32_w]
                  rfl
                refine pure_ (i := 9) (N := some 23) (v := ?_) (a' := ?_) #[true, true, true, true, true, true, true, false, true, true, false, false, false, false, false, false] rfl rfl (any_of HT_.out (by kernel_rfl)) (fun _ _ _ h => h) (Or.inl ⟨by rfl, ?_⟩) ?_ ?_
                rotate_left
                · intro w'
                  go_simp
                  with_reducible rfl
                rotate_left
                · simp only [Act.put, List.setIfInBounds_toArray, List.set_cons_zero, List.set_cons_succ, i64_w, i32_w]
                  rfl
                refine pure_ (i := 10) (N := some 24) (v := ?_) (a' := ?_) #[true, true, true, true, true, true, true, false, true, true, true, false, false, false, false, false] rfl rfl (any_of HT_.out (by kernel_rfl)) (fun _ _ _ h => h) (Or.inl ⟨by rfl, ?_⟩) ?_ ?_
                rotate_left
                · intro w'
                  go_simp
                  with_reducible rfl
                rotate_left
                · simp only [Act.put, List.setIfInBounds_toArray, List.set_cons_zero, List.set_cons_succ, i64_w, i32_w]
                  rfl
                refine take_ (i := 7) (N := some 21) (v := ?_) (a' := ?_) #[true, true, true, true, true, true, true, true, true, true, true, false, false, false, false, false] rfl rfl (take_ofW HT_.out HW_.out (by kernel_rfl)) (fun _ _ _ h => h) (Or.inl ⟨by rfl, ?_⟩) hHeld ?_ ?_
                rotate_left
                · rintro w' ⟨s0, s1⟩
                  go_simp
                  with_reducible rfl
                rotate_left
                · simp only [Act.put, List.setIfInBounds_toArray, List.set_cons_zero, List.set_cons_succ, i64_w, i32_w]
                  rfl
                refine take_ (i := 11) (N := some 25) (v := ?_) (a' := ?_) #[true, true, true, true, true, true, true, true, true, true, true, true, false, false, false, false] rfl rfl (take_ofW HT_.out HW_.out (by kernel_rfl)) (fun _ _ _ h => h) (Or.inl ⟨by rfl, ?_⟩) hHeld ?_ ?_
                rotate_left
                · rintro w' ⟨s0, s1⟩
                  go_simp
                  with_reducible rfl
                rotate_left
                · simp only [Act.put, List.setIfInBounds_toArray, List.set_cons_zero, List.set_cons_succ, i64_w, i32_w]
                  rfl
                refine pure_ (i := 12) (N := some 26) (v := ?_) (a' := ?_) #[true, true, true, true, true, true, true, true, true, true, true, true, true, false, false, false] rfl rfl (any_of HT_.out (by kernel_rfl)) (fun _ _ _ h => h) (Or.inl ⟨by rfl, ?_⟩) ?_ ?_
                rotate_left
                · intro w'
                  go_simp
                  with_reducible rfl
                rotate_left
                · simp only [Act.put, List.setIfInBounds_toArray, List.set_cons_zero, List.set_cons_succ, i64_w, i32_w]
                  rfl
                refine last_ (i := 13) (N := none) #[true, true, true, true, true, true, true, true, true, true, true, true, true, true, false, false] rfl rfl (one_of HT_.out (by kernel_rfl)) (by decide) (fun K hK => ?_)
                refine skip_ (w1 := ?_) (by rfl) rfl ?_ ?_
                rotate_left
                · go_simp
                  rfl
                refine hK.out _ _ ?_
                clear hK K
                refine pure_ (i := 14) (N := some 27) (v := ?_) (a' := ?_) #[true, true, true, true, true, true, true, true, true, true, true, true, true, true, true, false] rfl rfl (any_of HT_.out (by kernel_rfl)) (fun _ _ _ h => h) (Or.inl ⟨by rfl, ?_⟩) ?_ ?_
                rotate_left
                · intro w'
                  go_simp
                  with_reducible rfl
                rotate_left
                · simp only [Act.put, List.setIfInBounds_toArray, List.set_cons_zero, List.set_cons_succ, i64_w, i32_w]
                  rfl
                refine last_ (i := 15) (N := none) #[true, true, true, true, true, true, true, true, true, true, true, true, true, true, true, true] rfl rfl (one_of HT_.out (by kernel_rfl)) (by decide) (fun K hK => ?_)
                refine skip_ (w1 := ?_) (by rfl) rfl ?_ ?_
                rotate_left
                · go_simp
                  rfl
                refine hK.out _ _ ?_
                clear hK K
                refine done_ (done_of HT_.out (by kernel_rfl)) ?_
                try go_wp2
                (try simp only [← hl0_1])
                go_roundg k1
                case measure => have := HK1.out; omega
                case rel => exact ⟨(y212), (wrap64 (x2_1 + 1)), (wrap64 (x3_1 - 1)), (by first | rfl | (simp; done) | (simp [*]; done)), (by first | rfl | (simp; done) | (simp [*]; done)), H', ⟨by have := HK1.out; omega⟩, ⟨by (try simp only [hl0_1]); (with_reducible repeat (first | apply Kd.R_alloc | apply Kd.R_drewN | apply Kd.R_drew)); exact HQ12.out⟩, ⟨by repeat (first | (with_reducible first | exact HK.out | apply Kept.alloc | apply Kept.drewN | apply Kept.drew | refine Kept.setCell ?_ HMgo8.out _ | refine Kept.setCell ?_ HMgo8.out _) | exact HK.out)⟩, ⟨by repeat (first | (with_reducible first | exact HB.out | apply below_alloc | apply pw_below_drewN | apply below_drew1 | refine below_set ?_ GB8.out | refine below_set ?_ GB8.out) | exact HB.out)⟩⟩
              · rw [if_neg c7] at H
                exact absurd H (by simp)
            · rw [if_neg c6] at H
              exact absurd H (by simp)
          · rw [if_neg c5] at H
            exact absurd H (by simp)
        · rw [if_neg c4] at H
          exact absurd H (by simp)
      · rw [if_neg c3] at H
        have c3b0 : decide (x2_1 < x3_1) = false := decide_eq_false c3
        clear c3
        obtain rfl := Option.some.inj H
        go_wp2
        first | go_end0 | ((try simp only [Exit.inBlock, Exit.then]); refine bodyPost_ret (results_none rfl _ _ _) rfl ?_)
        exact ⟨by first | rfl | (simp [errW_none, errW_some] <;> rfl) | (simp [*, errW_none, errW_some] <;> rfl), (by first | exact (by (with_reducible repeat (first | apply Kd.R_alloc | apply Kd.R_drewN | apply Kd.R_drew)); exact HO_0.out) | (simp only [hl0_1]; exact (by (with_reducible repeat (first | apply Kd.R_alloc | apply Kd.R_drewN | apply Kd.R_drew)); exact HO_0.out))), by repeat (first | (with_reducible first | exact HB.out | apply below_alloc | apply pw_below_drewN | apply below_drew1) | exact HB.out), by repeat (first | (with_reducible first | exact HK.out | apply Kept.alloc | apply Kept.drewN | apply Kept.drew) | exact HK.out)⟩

/-! ### slices_Grow_int_int: function 66 (by hand) -/


/-! ### slices_Concat_int_int: function 42 (by hand) -/
/-! ### slices.Grow at nil, slices.Concat of two rows -/
set_option maxHeartbeats 4000000 in
set_option maxRecDepth 100000 in
theorem slices_Concat_int_int.grow (m : Int) (h0 : 0 ≤ m) (h1 : m ≤ 1000000) (w : World) :
    Calls Try.prog 66 #[.slice none 0 0, .int .i64 m] w fun e w' => ∃ v : Value, e = .returned v ∧ Kd.R (Kd.int .i64) 3 w' w.heap.size (fun _ => True) v [] ∧ Below w.heap.size w w' := by
  have c0 : decide (m < 0) = false := decide_eq_false (by omega)
  have em : IntKind.i64.wrap m = m := by rw [i64_w]; unfold wrap64; omega
  have em2 : wrap64 m = m := by unfold wrap64; omega
  have em3 : wrap64 (m - 0) = m := by unfold wrap64; omega
  have HM0 := Aside0.mk h0
  have HM1 := Aside0.mk h1
  have HBR := Aside0.mk (Below.refl w.heap.size w)
  by_cases hp : 0 < m
  · have c1 : decide (0 < m) = true := decide_eq_true hp
    clear hp h0 h1
    go_enter Try.func66, Try.ntmps66
    go_wp2_with (first | (at_builtin; refine Kd.R_append_zeros (Kd.int .i64) (w0 := w) w.heap.size rfl (.tmp 20) (.tmp 21) 22 3 3 (.int .i64 0) 8 rfl Try.underlying22 Try.underlying3 info3 rfl (by decide) (by omega) (.slice none 0 0) ([] : List Int) 0 (kx := .i64) m (fun _ => True) rfl rfl ?aZ ?aF ?aO HM0.out ?aB ?aS ?aL ?_; (case aZ => exact rfl); (case aF => exact (fun _ _ => trivial)); (case aO => exact Kd.R_nil _ _ _ _ _); (case aB => exact HBR.out); (case aS => exact Nat.le_refl _); (case aL => have := HM1.out; have := HM0.out; simp only [List.length_nil]; omega); intro v1 w1 ho hb hg hat; obtain ⟨A1, d1, e1⟩ := Kd.R_slice ho; subst e1; have HO := Aside0.mk (Kd.R_take ho (Nat.zero_le _)); have HB := Aside0.mk hb; have HLD := Aside0.mk (Kd.R_reads' ho).2.1; clear ho hb hg hat))
    go_ret
    exact ⟨_, rfl, HO.out, HB.out⟩
  · have c1 : decide (0 < m) = false := decide_eq_false hp
    clear hp h0 h1
    go_enter Try.func66, Try.ntmps66
    go_wp2
    go_ret
    exact ⟨_, rfl, Kd.R_nil _ _ _ _ _, HBR.out⟩
set_option maxHeartbeats 4000000 in
set_option maxRecDepth 100000 in
theorem slices_Concat_int_int.calls2 (g : Nat) (A0 : Option Addr) (c0 : Nat) (l0 : List Int) (A1 : Option Addr) (c1 : Nat) (l1 : List Int) (w : World) (hb0 : w.cell? ⟨g, 0, none⟩ = some (.slice A0 l0.length c0)) (hb1 : w.cell? ⟨g, 1, none⟩ = some (.slice A1 l1.length c1)) (hr0 : Kd.C (Kd.int .i64) w A0 l0.length l0) (hc0 : l0.length ≤ c0) (hr1 : Kd.C (Kd.int .i64) w A1 l1.length l1) (hc1 : l1.length ≤ c1) (hl0 : l0.length ≤ 1000) (hl1 : l1.length ≤ 1000) :
    Calls Try.prog 42 #[.slice (some ⟨g, 0, none⟩) 2 2] w fun e w' => ∃ v : Value, e = .returned v ∧ Kd.R (Kd.int .i64) 3 w' w.heap.size (fun _ => True) v (l0 ++ l1) ∧ Below w.heap.size w w' := by
  have hgl : g < w.heap.size := World.block_lt_of_cell? w _ hb0
  have HG0 := Aside0.mk hb0
  have HG1 := Aside0.mk hb1
  have HR0 := Aside0.mk hr0
  have HR1 := Aside0.mk hr1
  have HC0 := Aside0.mk hc0
  have HC1 := Aside0.mk hc1
  have HL0 := Aside0.mk hl0
  have HL1 := Aside0.mk hl1
  have HGL := Aside0.mk hgl
  clear hr0 hr1 hc0 hc1 hl0 hl1 hgl hb0 hb1
  go_enter Try.func42, Try.ntmps42
  go_wp2
  go_loopg [3, 11] 2 (fun gg v3 v11 wr => w = wr ∧ ((gg = 2 ∧ v11 = .int .i64 0 ∧ v3 = .int .i64 0) ∨ (gg = 1 ∧ v11 = .int .i64 1 ∧ v3 = .int .i64 (l0.length : Nat)) ∨ (gg = 0 ∧ v11 = .int .i64 2 ∧ v3 = .int .i64 ((l0.length : Nat) + (l1.length : Nat) : Int))))
  case atStart => exact ⟨rfl, .inl ⟨rfl, rfl, rfl⟩⟩
  case round =>
    obtain ⟨rfl, ⟨rfl, rfl, rfl⟩ | ⟨rfl, rfl, rfl⟩ | ⟨rfl, rfl, rfl⟩⟩ := hrel
    · have hz0 := HG0.out
      have ez : wrap64 (0 + (l0.length : Int)) = (l0.length : Int) := by have := HL0.out; unfold wrap64; omega
      have ez2 : wrap64 (l0.length : Int) = (l0.length : Int) := by have := HL0.out; unfold wrap64; omega
      have cz : decide ((l0.length : Int) < 0) = false := decide_eq_false (by omega)
      go_wp2
      go_roundg 1
      case measure => omega
      case rel => exact ⟨rfl, .inr (.inl ⟨rfl, by first | rfl | (simp; done) | decide, by first | rfl | (simp [ez, ez2]; done)⟩)⟩
    · have hz1 := HG1.out
      have ez : wrap64 ((l0.length : Int) + (l1.length : Int)) = (l0.length : Int) + (l1.length : Int) := by have := HL0.out; have := HL1.out; unfold wrap64; omega
      have cz : decide ((l0.length : Int) + (l1.length : Int) < 0) = false := decide_eq_false (by omega)
      go_wp2
      go_roundg 0
      case measure => omega
      case rel => exact ⟨rfl, .inr (.inr ⟨rfl, by first | rfl | (simp; done) | decide, by first | rfl | (simp [ez]; done)⟩)⟩
    · go_wp2_with (first | ((with_reducible refine gate_callee (f := 66) rfl ?_); refine goesL_ (some 24) rfl rfl Try.func66 (by kernel_rfl) rfl #[.slice none 0 0, .int .i64 ((l0.length : Int) + (l1.length : Int))] rfl (by (try simp only [List.map_toArray, List.map_cons, List.map_nil]); first | done | rfl) ?_; refine (slices_Concat_int_int.grow ((l0.length : Int) + (l1.length : Int)) (by omega) (by have := HL0.out; have := HL1.out; omega) _).mono ?_; rintro e w2 ⟨v2, rfl, ho, hb⟩; refine ⟨_, rfl, ?_⟩; obtain ⟨Av, cv, ev⟩ := Kd.R_slice ho; subst ev; simp only [Act.put, List.setIfInBounds_toArray, List.set_cons_zero, List.set_cons_succ, List.length_nil]; have HV := Aside0.mk ho; have HB := Aside0.mk hb; clear ho hb))
      have HK := Aside0.mk (Kd.C_below HR0.out HB.out)
      have hg0 := HB.out.cell (p := ⟨g, 0, none⟩) HGL.out
      go_loopg [6, 27] 2 (fun gg v6 v27 wr2 => ∃ (xs : List Int), ((gg = 2 ∧ v27 = .int .i64 0 ∧ xs = []) ∨ (gg = 1 ∧ v27 = .int .i64 1 ∧ xs = l0) ∨ (gg = 0 ∧ v27 = .int .i64 2 ∧ xs = l0 ++ l1)) ∧ Aside0 (Kd.R (Kd.int .i64) 3 wr2 w.heap.size (fun _ => True) v6 xs) ∧ Aside0 (Below w.heap.size w wr2))
      case atStart => exact ⟨[], .inl ⟨rfl, rfl, rfl⟩, HV, HB⟩
      case round =>
        clear HV HK hg0 HB
        obtain ⟨xs, hcase, HV, HB⟩ := hrel
        rcases hcase with ⟨rfl, rfl, hx⟩ | ⟨rfl, rfl, hx⟩ | ⟨rfl, rfl, hx⟩ <;> rw [hx] at HV <;> clear hx
        · have hz0 := (HB.out.cell (p := ⟨g, 0, none⟩) HGL.out).trans HG0.out
          go_wp2_with (first | (at_builtin; refine Kd.R_append_rows (Kd.int .i64) (w0 := w) w.heap.size rfl (.tmp 31) (.tmp 32) 22 3 (.int .i64 0) 8 rfl Try.underlying22 info3 rfl (by decide) (by omega) _ ([] : List Int) l0 _ _ _ (fun _ => True) (fun _ => False) rfl rfl ?aO ?aR (fun _ _ h => h) (fun _ h => h.elim) ?aF ?aB ?aS ?aL ?_; (case aR => exact Kd.C_below HR0.out HB.out); (case aB => exact HB.out); (case aF => exact (fun _ _ => trivial)); (case aO => exact HV.out); (case aS => exact HB.out.size); (case aL => have := HL0.out; have := HL1.out; simp only [List.length_nil]; omega); intro v9 w9 ho hb hg hat; have HV9 := Aside0.mk ho; have HB9 := Aside0.mk hb; clear ho hb hg hat))
          go_roundg 1
          case measure => omega
          case rel => exact ⟨[] ++ l0, .inr (.inl ⟨rfl, by first | rfl | (simp; done) | decide, List.nil_append _⟩), HV9, HB9⟩
        · have hz1 := (HB.out.cell (p := ⟨g, 1, none⟩) HGL.out).trans HG1.out
          go_wp2_with (first | (at_builtin; refine Kd.R_append_rows (Kd.int .i64) (w0 := w) w.heap.size rfl (.tmp 31) (.tmp 32) 22 3 (.int .i64 0) 8 rfl Try.underlying22 info3 rfl (by decide) (by omega) _ l0 l1 _ _ _ (fun _ => True) (fun _ => False) rfl rfl ?aO ?aR (fun _ _ h => h) (fun _ h => h.elim) ?aF ?aB ?aS ?aL ?_; (case aR => exact Kd.C_below HR1.out HB.out); (case aB => exact HB.out); (case aF => exact (fun _ _ => trivial)); (case aO => exact HV.out); (case aS => exact HB.out.size); (case aL => have := HL0.out; have := HL1.out; omega); intro v9 w9 ho hb hg hat; have HV9 := Aside0.mk ho; have HB9 := Aside0.mk hb; clear ho hb hg hat))
          go_roundg 0
          case measure => omega
          case rel => exact ⟨_, .inr (.inr ⟨rfl, by first | rfl | (simp; done) | decide, rfl⟩), HV9, HB9⟩
        · go_wp2
          go_ret
          exact ⟨_, rfl, HV.out, HB.out⟩

-- NOT PRINTED: function 67 (impl_renumbered_1)

/-! ### impl_renumbered: function 43 (by hand) -/
/-! ### Names in the order in which they come -/
/-- The map names the numbers seen so far by their places. -/
structure MapAs (D : DataW Unit) (seen : List Int) : Prop where
  tidy : Go.Maps.Tidy D
  size : Go.Maps.size D = seen.length
  has : ∀ x, Go.Maps.has D (.int .i64 x) = decide (x ∈ seen)
  at_ : ∀ x, x ∈ seen → D.atKey (.int .i64 x) (.lit (.int .i64 0)) = .lit (.int .i64 (seen.idxOf x : Nat))
theorem MapAs.start : MapAs (.map [] : DataW Unit) [] := ⟨Go.Maps.tidy_empty, rfl, fun x => by simp [Go.Maps.has_eq], fun x hx => by cases hx⟩
theorem MapAs.put {D : DataW Unit} {seen : List Int} (h : MapAs D seen) {x : Int} (hx : x ∉ seen) : MapAs (D.put (.int .i64 x) (.lit (.int .i64 (seen.length : Nat)))) (seen ++ [x]) := by
  have hh : Go.Maps.has D (.int .i64 x) = false := by rw [h.has]; simp [hx]
  refine ⟨h.tidy.put (show WideAt.IsKeyLit (Lit.int .i64 x) from trivial) _, ?_, fun y => ?_, fun y hy => ?_⟩
  · rw [Go.Maps.size_put h.tidy, hh, h.size]; simp
  · by_cases e : y = x
    · subst e
      rw [Go.Maps.has_put_same h.tidy.isMap (show WideAt.IsKeyLit (Lit.int .i64 y) from trivial)]; simp
    · rw [Go.Maps.has_put_other (by intro e2; injection e2 with _ e2; exact e e2), h.has]
      simp [e]
  · by_cases e : y = x
    · subst e
      rw [Go.Maps.atKey_put_same h.tidy.isMap (show WideAt.IsKeyLit (Lit.int .i64 y) from trivial), List.idxOf_append, if_neg hx]; simp
    · rw [Go.Maps.atKey_put_other (by intro e2; injection e2 with _ e2; exact e e2)]
      have hy2 : y ∈ seen := by simpa [e] using hy
      rw [h.at_ y hy2, List.idxOf_append, if_pos hy2]
def seeOne (seen : List Int) (x : Int) : List Int := if x ∈ seen then seen else seen ++ [x]
def ofSeen : List Int → List Int → List Int
  | seen, [] => seen
  | seen, x :: l => ofSeen (seeOne seen x) l
def ofOut : List Int → List Int → List Int
  | _, [] => []
  | seen, x :: l => (((seeOne seen x).idxOf x : Nat) : Int) :: ofOut (seeOne seen x) l
theorem ofSeen_snoc (x : Int) : ∀ (l seen : List Int), ofSeen seen (l ++ [x]) = seeOne (ofSeen seen l) x
  | [], _ => rfl
  | y :: l, seen => ofSeen_snoc x l (seeOne seen y)
theorem ofOut_snoc (x : Int) : ∀ (l seen : List Int), ofOut seen (l ++ [x]) = ofOut seen l ++ [(((seeOne (ofSeen seen l) x).idxOf x : Nat) : Int)]
  | [], _ => rfl
  | y :: l, seen => congrArg (_ :: ·) (ofOut_snoc x l (seeOne seen y))
theorem ofOut_length : ∀ (l seen : List Int), (ofOut seen l).length = l.length
  | [], _ => rfl
  | y :: l, seen => congrArg (· + 1) (ofOut_length l (seeOne seen y))
theorem seeOne_mem (seen : List Int) (x : Int) : x ∈ seeOne seen x := by
  unfold seeOne
  split
  · assumption
  · simp
theorem seeOne_length (seen : List Int) (x : Int) : (seeOne seen x).length ≤ seen.length + 1 := by
  unfold seeOne
  split
  · omega
  · simp
theorem ofSeen_length : ∀ (l seen : List Int), (ofSeen seen l).length ≤ seen.length + l.length
  | [], _ => by simp [ofSeen]
  | y :: l, seen => by
    have h1 := ofSeen_length l (seeOne seen y)
    have h2 := seeOne_length seen y
    simp only [ofSeen, List.length_cons]
    omega
/-- All numbers are of the kind. -/
def wfB (l : List Int) : Bool := l.all fun x => (Lit.int .i64 x).wf
theorem wfB_rd {l : List Int} (h : wfB l = true) {i : Int} (h0 : 0 ≤ i) (h1 : i < (l.length : Int)) : (Lit.int .i64 (rd l i)).wf = true := by
  have e : rd l i ∈ l := by
    unfold rd
    rw [List.getD_eq_getElem?_getD, List.getElem?_eq_getElem (by omega)]
    exact List.getElem_mem _
  exact List.all_eq_true.1 h _ e
theorem wf_small {n : Nat} (h : n < 4611686018427387904) : (Lit.int .i64 (n : Nat)).wf = true := WalkArith.wf_i64 (by omega)
theorem R_grownE {e : TypeId} {w w1 : World} {base : Nat} {v : Value} {xs : List Int} {row : Option Nat} (h : (Kd.int .i64).R e w base (fun _ => True) v xs) (hg : w.grownBy w1 row) (hok : ∀ k, v.ownBlock = some k → some k ≠ row) : (Kd.int .i64).R e w1 base (fun _ => True) v xs :=
  Kd.R_mono (Kd.R_grown (Kd.R_tight rfl h) hg (fun k hk => hok k hk.symm)) (fun _ _ => trivial)
theorem take_snoc (l : List Int) (i : Nat) (h : i < l.length) : l.take (i + 1) = l.take i ++ [rd l (i : Int)] := by
  rw [List.take_add_one, List.getElem?_eq_getElem h]
  unfold rd
  rw [Int.toNat_natCast, List.getD_eq_getElem?_getD, List.getElem?_eq_getElem h]; rfl
theorem impl_renumbered.zero (w : World) : (zeroValue 3).run Try.prog w = .ok (.int .i64 0) w := by
  have h : (Try.prog.info? 3).map (fun i => i.zero) = some (some (.int .i64 0)) := by kernel_rfl
  obtain ⟨i, hi, hz⟩ := Option.map_eq_some_iff.1 h
  simp [zeroValue, typeInfo, hi, hz]
theorem own_step {P : Program} {k : TypeId} {R : Value → Option (DataW Unit × List MemPlace)} {b n : Nat} {D : DataW Unit} {w w1 : World} (h : w.ownsMap P k R b n D) (e : w1.heap[b]? = w.heap[b]?) : w1.ownsMap P k R b n D := by
  obtain ⟨es, clock, hb, r⟩ := h
  exact ⟨es, clock, e.trans hb, r⟩
open Go.Maps in
set_option maxHeartbeats 8000000 in
set_option maxRecDepth 100000 in
theorem impl_renumbered.clo (A0 : Option Addr) (c0 : Nat) (l : List Int) (gb gm n : Nat) (seen : List Int) (D : DataW Unit) (w0 w : World) (hB : Below w0.heap.size w0 w) (hgm : w0.heap.size ≤ gm) (hr : ∀ W, Kept w W (fun k => k = gm) → Kd.C (Kd.int .i64) W A0 l.length l) (hc : l.length ≤ c0) (hwf : wfB l = true) (hl : l.length ≤ 1000000) (hn : n ≤ 1000000) (hbox : w.cell? ⟨gb, 0, none⟩ = some (.map (some gm))) (hown : w.ownsMap Try.prog 3 (plainElem Try.prog 3) gm n D) (hD : MapAs D seen) (hs : seen.length ≤ 1000000) :
    Calls Try.prog 67 (#[.slice A0 l.length c0] ++ #[.pointer (some ⟨gb, 0, none⟩)]) w fun e w' => ∃ v : Value, e = .returned v ∧ Kd.R (Kd.int .i64) 3 w' w.heap.size (fun _ => True) v (ofOut seen l) ∧ (∃ D' : DataW Unit, w'.ownsMap Try.prog 3 (plainElem Try.prog 3) gm (n + l.length) D' ∧ MapAs D' (ofSeen seen l)) ∧ Below w0.heap.size w0 w' ∧ Kept w w' (fun k => k = gm) := by
  have hbl : gb < w.heap.size := World.block_lt_of_cell? w _ hbox
  have hgl : gm < w.heap.size := hown.lt
  have law := int_keyed Try.underlying3
  have hbn : gb ≠ gm := by
    rintro rfl
    obtain ⟨es, clock, hb, _⟩ := hown
    simp [World.cell?, hb] at hbox
  have HR := Aside0.mk hr
  have HC := Aside0.mk hc
  have HWF := Aside0.mk hwf
  have HL := Aside0.mk hl
  have HN := Aside0.mk hn
  have HS := Aside0.mk hs
  have HBN := Aside0.mk hbn
  have HBX := Aside0.mk hbox
  have HBL := Aside0.mk hbl
  have HGL := Aside0.mk hgl
  have HGM := Aside0.mk hgm
  have HB0 := Aside0.mk hB
  have HO0 := Aside0.mk hown
  have HD0 := Aside0.mk hD
  clear hr hc hwf hl hn hs hbn hbl hgl hgm hB hown hD
  go_enter Try.func67, Try.ntmps67
  go_wp2_with (first | ((with_reducible refine gate_dst (N := 9) rfl ?_); refine Kd.R_lit (Kd.int .i64) _ 3 ?hg (N := 9) ?hd (xs := ([] : List Int)) (inner := []) (ok := fun _ => True) (okp := fun _ => True) ?hr ?hp (fun _ hk => hk) trivial (Below.refl _ _) (Nat.le_refl _) (by simp) ?_; (case hd => rfl); (case hg => rfl); (case hr => first | (go_simp; done) | (go_simp; rfl)); (case hp => exact (Reps.none _ _)); intro v1 w3 ho4 hb hg_ hnew_; clear hg_ hnew_; have HV1 := Aside0.mk (show Kd.R (Kd.int .i64) 3 w3 w.heap.size (fun _ => True) v1 (ofOut seen (l.take 0)) from ho4); have HO1 := Aside0.mk (own_step HO0.out (hb.block gm HGL.out)); have HB1 := Aside0.mk (below_step HB0.out hb); have HK1 := Aside0.mk (Kept.of_below hb (fun k => k = gm)); clear ho4 hb))
  go_loopg [4, 12] l.length (fun gg v4 v12 wr => ∃ (i : Nat) (D' : DataW Unit), v12 = .int .i64 (i : Nat) ∧ i ≤ l.length ∧ l.length - i ≤ gg ∧ Aside0 (Kd.R (Kd.int .i64) 3 wr w.heap.size (fun _ => True) v4 (ofOut seen (l.take i))) ∧ Aside0 (wr.ownsMap Try.prog 3 (plainElem Try.prog 3) gm (n + i) D') ∧ Aside0 (MapAs D' (ofSeen seen (l.take i))) ∧ Aside0 (Below w0.heap.size w0 wr) ∧ Aside0 (Kept w wr (fun k => k = gm)))
  case atStart => exact ⟨0, D, rfl, Nat.zero_le _, Nat.le_refl _, HV1, HO1, HD0, HB1, HK1⟩
  case round =>
    obtain ⟨i, D', rfl, hi, hgg, HV, HO, HD, HB, HK⟩ := hrel
    by_cases hlt : i < l.length
    · have hltz : (i : Int) < (l.length : Int) := by omega
      have p1 : (0 ≤ ((i : Nat) : Int)) = True := eq_true (by omega)
      have p2 : (((i : Nat) : Int) < (l.length : Int)) = True := eq_true hltz
      have hcr : Kd.C (Kd.int .i64) wr A0 l.length l := HR.out wr HK.out
      obtain ⟨ad, e1, hx⟩ := Kd.at_int hcr ((i : Nat) : Int) (by omega) hltz
      subst e1
      rw [Int.toNat_natCast] at hx
      have hbx : wr.cell? ⟨gb, 0, none⟩ = some (.map (some gm)) := cell_kept HBX.out HK.out HBN.out
      have HXW := Aside0.mk (show (Lit.int .i64 (rd l ((i : Nat) : Int))).wf = true from wfB_rd HWF.out (by omega) hltz)
      clear hcr
      by_cases hm : rd l ((i : Nat) : Int) ∈ ofSeen seen (l.take i)
      · have HM := Aside0.mk hm
        have HH := Aside0.mk (show Go.Maps.has D' (.int .i64 (rd l ((i : Nat) : Int))) = true by rw [HD.out.has]; simp [hm])
        clear hm
        have HSE := Aside0.mk (show seeOne (ofSeen seen (l.take i)) (rd l ((i : Nat) : Int)) = ofSeen seen (l.take i) from if_pos HM.out)
        go_wp2_with (first | (at_lookup; refine wpList_lookup_own_ok_int _ rfl _ _ 58 rfl 3 3 .i64 law Try.underlying58 Try.underlying3 (impl_renumbered.zero _) gm _ D' rfl HO.out _ _ rfl (keyOf_int_mk Try.underlying3 HXW.out) ?_; intro c0_ hat0_ hwc0_; rw [HH.out]) | (at_lookup; refine wpList_lookup_own_int _ rfl _ _ 58 rfl 3 3 .i64 law Try.underlying58 Try.underlying3 (impl_renumbered.zero _) gm _ _ rfl HO.out _ _ rfl (keyOf_int_mk Try.underlying3 HXW.out) ?_; intro c1_ hat1_ hwc1_; rw [(HD.out.at_ _ HM.out)] at hat1_; (injection hat1_ with hat1_; injection hat1_ with _ hat1_; subst hat1_)) | (at_builtin; refine Kd.R_append (Kd.int .i64) (w0 := wr) w.heap.size rfl (.tmp 28) (.tmp 32) 22 3 (.int .i64 0) 8 rfl Try.underlying22 info3 rfl (by decide) (by omega) _ (ofOut seen (l.take i)) ((((ofSeen seen (l.take i)).idxOf (rd l ((i : Nat) : Int)) : Nat) : Int)) [.int .i64 (((ofSeen seen (l.take i)).idxOf (rd l ((i : Nat) : Int)) : Nat) : Int)] (fun _ => True) (fun _ => False) rfl rfl ?aP (fun _ hk => hk.elim) ?aF ?aO ?aB ?aS ?aL ?_; (case aP => exact rfl); (case aF => exact (fun _ _ => trivial)); (case aO => exact HV.out); (case aB => exact Below.refl _ _); (case aS => exact HK.out.1); (case aL => rw [ofOut_length, List.length_take]; have := HL.out; omega); intro v9 w9 ho hb hg hat; have HV9 := Aside0.mk ho; have HGR := Aside0.mk hg; have HAT := Aside0.mk hat; clear ho hb hg hat))
        go_roundg (l.length - (i + 1))
        case measure => omega
        case rel =>
          have hgm9 : w9.heap[gm]? = wr.heap[gm]? := HGR.out.block gm (Nat.lt_of_lt_of_le HGL.out HK.out.1) (fun e_ => by have h1 := Kd.R_base HV.out gm e_.symm; have h2 := HGL.out; omega)
          refine ⟨i + 1, D', congrArg (Value.int .i64) (show wrap64 (((i : Nat) : Int) + 1) = ((i + 1 : Nat) : Int) by have := HL.out; unfold wrap64; omega), by omega, Nat.le_refl _, ⟨?_⟩, ⟨own_step (HO.out.mono (by omega)) hgm9⟩, ⟨?_⟩, ⟨HB.out.grown HGR.out HB.out.size (fun k_ h_ => Nat.le_trans HB0.out.size (Kd.R_base HV.out k_ h_))⟩, ⟨Kept.of_grown HGR.out HK.out (fun k_ h_ => .inr (Kd.R_base HV.out k_ h_))⟩⟩
          · rw [take_snoc l i hlt, ofOut_snoc, HSE.out]
            exact HV9.out
          · rw [take_snoc l i hlt, ofSeen_snoc, HSE.out]
            exact HD.out
      · have HM := Aside0.mk hm
        have HH := Aside0.mk (show Go.Maps.has D' (.int .i64 (rd l ((i : Nat) : Int))) = false by rw [HD.out.has]; simp [hm])
        clear hm
        have HD2 := Aside0.mk (HD.out.put HM.out)
        have HSE := Aside0.mk (show seeOne (ofSeen seen (l.take i)) (rd l ((i : Nat) : Int)) = ofSeen seen (l.take i) ++ [rd l ((i : Nat) : Int)] from if_neg HM.out)
        have HLW := Aside0.mk (show (Lit.int .i64 ((ofSeen seen (l.take i)).length : Nat)).wf = true from wf_small (by have h1 := ofSeen_length (l.take i) seen; have := HS.out; have := HL.out; rw [List.length_take] at h1; omega))
        have HIX := Aside0.mk (show (ofSeen seen (l.take i) ++ [rd l ((i : Nat) : Int)]).idxOf (rd l ((i : Nat) : Int)) = (ofSeen seen (l.take i)).length by rw [List.idxOf_append, if_neg HM.out]; simp)
        go_wp2_with (first | (at_lookup; refine wpList_lookup_own_ok_int _ rfl _ _ 58 rfl 3 3 .i64 law Try.underlying58 Try.underlying3 (impl_renumbered.zero _) gm _ D' rfl HO.out _ _ rfl (keyOf_int_mk Try.underlying3 HXW.out) ?_; intro c0_ hat0_ hwc0_; rw [HH.out]) | (at_len; refine wpList_len_own _ rfl _ 58 rfl 3 3 Try.underlying58 _ gm _ D' rfl HO.out ?_; rw [HD.out.size]) | (at_mapUpdate; refine wpList_mapUpdate_own _ rfl _ _ _ 58 rfl 3 3 law Try.underlying58 _ gm _ D' rfl HO.out (by have := HN.out; have := HL.out; unfold maxLen; omega) _ _ _ rfl rfl (keyOf_int_mk Try.underlying3 HXW.out) _ [] (plainElem_int Try.underlying3 HLW.out) ?_; intro w1 hown1 hgrow1; have hbx1 : w1.cell? ⟨gb, 0, none⟩ = some (.map (some gm)) := hgrow1.cell hbx (fun e_ => HBN.out (by injection e_)); have HO2 := Aside0.mk (hown1.mono (Nat.le_refl _)); have HG2 := Aside0.mk hgrow1; have HB2 := Aside0.mk (HB.out.grown hgrow1 HB.out.size (fun j hj => by cases hj; exact HGM.out)); have HK2 := Aside0.mk (Kept.of_grown hgrow1 HK.out (fun k_ h_ => .inl (by injection h_ with h_; exact h_.symm))); have HV2 := Aside0.mk (R_grownE HV.out hgrow1 (fun k_ hk_ e_ => by injection e_ with e_; have h1 := Kd.R_base HV.out k_ hk_; have h2 := HGL.out; omega)); clear hown1 hgrow1) | (at_lookup; refine wpList_lookup_own_int _ rfl _ _ 58 rfl 3 3 .i64 law Try.underlying58 Try.underlying3 (impl_renumbered.zero _) gm _ _ rfl HO2.out _ _ rfl (keyOf_int_mk Try.underlying3 HXW.out) ?_; intro c1_ hat1_ hwc1_; rw [(HD2.out.at_ _ (by simp))] at hat1_; (injection hat1_ with hat1_; injection hat1_ with _ hat1_; subst hat1_)) | (at_builtin; refine Kd.R_append (Kd.int .i64) (w0 := w1) w.heap.size rfl (.tmp 28) (.tmp 32) 22 3 (.int .i64 0) 8 rfl Try.underlying22 info3 rfl (by decide) (by omega) _ (ofOut seen (l.take i)) ((((ofSeen seen (l.take i) ++ [rd l ((i : Nat) : Int)]).idxOf (rd l ((i : Nat) : Int)) : Nat) : Int)) [.int .i64 (((ofSeen seen (l.take i) ++ [rd l ((i : Nat) : Int)]).idxOf (rd l ((i : Nat) : Int)) : Nat) : Int)] (fun _ => True) (fun _ => False) rfl rfl ?aP (fun _ hk => hk.elim) ?aF ?aO ?aB ?aS ?aL ?_; (case aP => exact rfl); (case aF => exact (fun _ _ => trivial)); (case aO => exact HV2.out); (case aB => exact Below.refl _ _); (case aS => exact HK2.out.1); (case aL => rw [ofOut_length, List.length_take]; have := HL.out; omega); intro v9 w9 ho hb hg hat; have HV9 := Aside0.mk ho; have HGR := Aside0.mk hg; have HAT := Aside0.mk hat; clear ho hb hg hat))
        go_roundg (l.length - (i + 1))
        case measure => omega
        case rel =>
          have hgm9 : w9.heap[gm]? = w1.heap[gm]? := HGR.out.block gm (Nat.lt_of_lt_of_le HGL.out HK2.out.1) (fun e_ => by have h1 := Kd.R_base HV2.out gm e_.symm; have h2 := HGL.out; omega)
          refine ⟨i + 1, _, congrArg (Value.int .i64) (show wrap64 (((i : Nat) : Int) + 1) = ((i + 1 : Nat) : Int) by have := HL.out; unfold wrap64; omega), by omega, Nat.le_refl _, ⟨?_⟩, ⟨own_step (HO2.out.mono (by omega)) hgm9⟩, ⟨?_⟩, ⟨HB2.out.grown HGR.out HB2.out.size (fun k_ h_ => Nat.le_trans HB0.out.size (Kd.R_base HV2.out k_ h_))⟩, ⟨Kept.of_grown HGR.out HK2.out (fun k_ h_ => .inr (Kd.R_base HV2.out k_ h_))⟩⟩
          · rw [take_snoc l i hlt, ofOut_snoc, HSE.out]
            exact HV9.out
          · rw [take_snoc l i hlt, ofSeen_snoc, HSE.out]
            exact HD2.out
    · obtain rfl : i = l.length := by omega
      have hltz : ¬ ((l.length : Nat) : Int) < (l.length : Int) := by omega
      rw [List.take_length] at HV HD
      go_wp2
      go_ret
      exact ⟨_, rfl, HV.out, ⟨D', HO.out, HD.out⟩, HB.out, HK.out⟩

theorem four_new (w : World) (a b c d : Obj) : ((((w.alloc a).alloc b).alloc c).alloc d).heap.size = w.heap.size + 4 ∧ ((((w.alloc a).alloc b).alloc c).alloc d).heap[w.heap.size]? = some a ∧ ((((w.alloc a).alloc b).alloc c).alloc d).heap[w.heap.size + 1]? = some b ∧ ((((w.alloc a).alloc b).alloc c).alloc d).heap[w.heap.size + 2]? = some c ∧ ((((w.alloc a).alloc b).alloc c).alloc d).heap[w.heap.size + 3]? = some d := by
  have h : ∀ (w : World) (o : Obj), (w.alloc o).heap.size = w.heap.size + 1 := fun w o => by simp
  refine ⟨by rw [h, h, h, h], blk_alloc (blk_alloc (blk_alloc (blk_new w a) b) c) d, ?_, ?_, ?_⟩
  · have h1 := blk_alloc (blk_alloc (blk_new (w.alloc a) b) c) d
    rwa [h] at h1
  · have h1 := blk_alloc (blk_new ((w.alloc a).alloc b) c) d
    rwa [h, h] at h1
  · have h1 := blk_new (((w.alloc a).alloc b).alloc c) d
    rwa [h, h, h] at h1
theorem ownsMap_new {P : Program} {k : TypeId} {R : Value → Option (DataW Unit × List MemPlace)} {b : Nat} {w : World} (h : w.heap[b]? = some (.map #[] 0)) : w.ownsMap P k R b 0 (.map []) := by
  obtain ⟨es, clock, h1, r⟩ := World.ownsMap_made (H := Unit) w P k R
  rw [(Go.MapKept.heap_alloc w _).1] at h1
  injection h1 with h1
  injection h1 with h1 h2
  subst h1
  subst h2
  exact ⟨_, _, h, r⟩
theorem R_keptE {e : TypeId} {w w1 : World} {base : Nat} {S : Nat → Prop} {v : Value} {xs : List Int} (h : (Kd.int .i64).R e w base (fun _ => True) v xs) (hk : Kept w w1 S) (hn : ∀ k, v.ownBlock = some k → ¬ S k) : (Kd.int .i64).R e w1 base (fun _ => True) v xs :=
  Kd.R_mono (Kd.R_step (Kd.R_tight rfl h) (fun k hk2 hlt => hk.2 k hlt (hn k hk2.symm))) (fun _ _ => trivial)
theorem goesVS_ {P : Program} {ops : Array Oper} {Q : Exit → Act → World → Prop} {oi : Oper} {N : Option Tmp} {a : Act} {w : World} {K : Act → World → Prop} {g : FuncId} {lb : Array Value} {s : Tmp} {as_ : Array Operand} {ts : Array TypeId} (hs : a.eval (.tmp s) = .func (.func g) #[] lb) (eg : ∀ args w, (callFunc g args).run P w = .ok (.enter g args) w) (args : Array Value)
    (hw : Region.wanted oi (yielded ops a.tmps) = true) (hN : oi.dst = N) (hop : oi.op = .call { callee := .value (.tmp s), args := as_, argTypes := ts }) (hargs : as_.map a.eval = args)
    (h : Calls P g (args ++ lb) w fun e w' => ∃ v, e = .returned v ∧ K (a.put N v) w') : if Region.wanted oi (yielded ops a.tmps) = true then Oper.wp P oi a w K Q else K (a.put N undef) w := by
  refine call_ g (args ++ lb) hw hN ?_ h
  unfold execOp
  simp [hop, resolve, Deferred.ofValue, invoke, hs, hargs, eg]
def impl_renumbered.f (l0_0 l0_1 : List Int) (a0_2 : Int) : Option (List Int × List Int × Int) := if wfB l0_0 = true ∧ wfB l0_1 = true ∧ l0_0.length ≤ 1000 ∧ l0_1.length ≤ 1000 then some (ofOut [] l0_0, ofOut (ofSeen [] l0_0) l0_1, a0_2) else none
set_option maxHeartbeats 8000000 in
set_option maxRecDepth 100000 in
theorem impl_renumbered.calls (A0_0 : Option Addr) (c0_0 : Nat) (l0_0 : List Int) (A0_1 : Option Addr) (c0_1 : Nat) (l0_1 : List Int) (a0_2 : Int) (r1 : List Int) (r2 : List Int) (r3 : Int) (w : World) (hr0_0 : Kd.C (Kd.int .i64) w A0_0 l0_0.length l0_0) (hc0_0 : l0_0.length ≤ c0_0) (hr0_1 : Kd.C (Kd.int .i64) w A0_1 l0_1.length l0_1) (hc0_1 : l0_1.length ≤ c0_1) (h : impl_renumbered.f l0_0 l0_1 a0_2 = some (r1, r2, r3)) :
    Calls Try.prog 43 #[.agg #[.slice A0_0 l0_0.length c0_0, .slice A0_1 l0_1.length c0_1, .int .i64 a0_2]] w fun e w' => ∃ v0_ v1_ : Value, e = .returned (.agg #[v0_, v1_, .int .i64 r3]) ∧ Kd.R (Kd.int .i64) 3 w' w.heap.size (fun k_ => some k_ ≠ (v1_ : Value).ownBlock) v0_ r1 ∧ Kd.R (Kd.int .i64) 3 w' w.heap.size (fun k_ => some k_ ≠ (v0_ : Value).ownBlock) v1_ r2 ∧ Below w.heap.size w w' := by
  have hu := Try.underlying27
  unfold impl_renumbered.f at h
  split at h
  · rename_i hc
    obtain ⟨hw0, hw1, hl0, hl1⟩ := hc
    simp only [Option.some.injEq, Prod.mk.injEq] at h
    obtain ⟨rfl, rfl, rfl⟩ := h
    have HR0_0 := Aside0.mk hr0_0
    have HC0_0 := Aside0.mk hc0_0
    have HR0_1 := Aside0.mk hr0_1
    have HC0_1 := Aside0.mk hc0_1
    have HW0 := Aside0.mk hw0
    have HW1 := Aside0.mk hw1
    have HL0 := Aside0.mk hl0
    have HL1 := Aside0.mk hl1
    clear hr0_0 hc0_0 hr0_1 hc0_1 hw0 hw1 hl0 hl1
    have eg := fun args w => enters_ (P := Try.prog) Try.func67 (by kernel_rfl) rfl args w
    have hmm := @run_makeMap Try.prog
    go_enter Try.func43, Try.ntmps43
    go_upto_region 3 with (fail)
    (try simp only [Act.put, List.setIfInBounds_toArray, List.set_cons_zero, List.set_cons_succ])
    have hb0 : Below w.heap.size w ((((w.alloc (.cells #[.slice A0_0 l0_0.length c0_0, .slice A0_1 l0_1.length c0_1, .int .i64 a0_2] 27)).alloc (.cells #[.slice none 0 0, .slice none 0 0, .int .i64 0] 27)).alloc (.map #[] 0)).alloc (.cells #[.map (some (w.heap.size + 1 + 1))] 58)) := by repeat (first | exact Below.refl _ _ | apply below_alloc)
    obtain ⟨hs0, ks, kr, km, kb⟩ := four_new w (.cells #[.slice A0_0 l0_0.length c0_0, .slice A0_1 l0_1.length c0_1, .int .i64 a0_2] 27) (.cells #[.slice none 0 0, .slice none 0 0, .int .i64 0] 27) (.map #[] 0) (.cells #[.map (some (w.heap.size + 1 + 1))] 58)
    rw [show w.heap.size + 1 + 1 = w.heap.size + 2 by omega] at hs0 ks kr km kb ⊢ hb0
    generalize ((((w.alloc (.cells #[.slice A0_0 l0_0.length c0_0, .slice A0_1 l0_1.length c0_1, .int .i64 a0_2] 27)).alloc (.cells #[.slice none 0 0, .slice none 0 0, .int .i64 0] 27)).alloc (.map #[] 0)).alloc (.cells #[.map (some (w.heap.size + 2))] 58)) = wb at hb0 hs0 ks kr km kb ⊢
    have n0_ := Aside0.mk (blk_drew ks)
    have n1_ := Aside0.mk (blk_drew kr)
    have n2_ := Aside0.mk (blk_drew km)
    have n3_ := Aside0.mk (blk_drew kb)
    have n4_ := Aside0.mk (below_drew1 hb0)
    have n5_ := Aside0.mk (show wb.drew.heap.size = w.heap.size + 4 from hs0)
    clear ks kr km kb hb0 hs0
    have KS := n0_
    have KR := n1_
    have KM := n2_
    have KB := n3_
    have HB := n4_
    have HSZ := n5_
    clear n0_ n1_ n2_ n3_ n4_ n5_
    have EG := Aside0.mk eg
    clear eg
    refine start_ (n := 12) (S := fun w' => w'.cell? ⟨w.heap.size, 0, none⟩ = some (.slice A0_0 l0_0.length c0_0) ∧ w'.cell? ⟨w.heap.size, 1, none⟩ = some (.slice A0_1 l0_1.length c0_1) ∧ w'.cell? ⟨w.heap.size, 2, none⟩ = some (.int .i64 a0_2)) (ds := [11]) #[false, false, false, false, false, false, false, false, false, false, false, false] (by kernel_rfl) rfl rfl ⟨(blk_cell KS.out 0).trans rfl, (blk_cell KS.out 1).trans rfl, (blk_cell KS.out 2).trans rfl⟩ (fun hHeld => ?_)
    generalize wb.drew = wd at KS KR KM KB HB HSZ hHeld ⊢
    refine pure_ (i := 0) (N := some 7) (v := ?_) (a' := ?_) #[true, false, false, false, false, false, false, false, false, false, false, false] rfl rfl (by kernel_rfl) (fun _ _ _ h => h) (Or.inl ⟨by rfl, ?_⟩) ?_ ?_
    rotate_left
    · intro w'
      go_simp
      with_reducible rfl
    rotate_left
    · simp only [Act.put, List.setIfInBounds_toArray, List.set_cons_zero, List.set_cons_succ, i64_w, i32_w]
      rfl
    refine pure_ (i := 1) (N := some 8) (v := ?_) (a' := ?_) #[true, true, false, false, false, false, false, false, false, false, false, false] rfl rfl (by kernel_rfl) (fun _ _ _ h => h) (Or.inl ⟨by rfl, ?_⟩) ?_ ?_
    rotate_left
    · intro w'
      go_simp
      with_reducible rfl
    rotate_left
    · simp only [Act.put, List.setIfInBounds_toArray, List.set_cons_zero, List.set_cons_succ, i64_w, i32_w]
      rfl
    refine pure_ (i := 4) (N := some 11) (v := ?_) (a' := ?_) #[true, true, false, false, true, false, false, false, false, false, false, false] rfl rfl (by kernel_rfl) (fun _ _ _ h => h) (Or.inl ⟨by rfl, ?_⟩) ?_ ?_
    rotate_left
    · intro w'
      go_simp
      with_reducible rfl
    rotate_left
    · simp only [Act.put, List.setIfInBounds_toArray, List.set_cons_zero, List.set_cons_succ, i64_w, i32_w]
      rfl
    refine pure_ (i := 5) (N := some 12) (v := ?_) (a' := ?_) #[true, true, false, false, true, true, false, false, false, false, false, false] rfl rfl (by kernel_rfl) (fun _ _ _ h => h) (Or.inl ⟨by rfl, ?_⟩) ?_ ?_
    rotate_left
    · intro w'
      go_simp
      with_reducible rfl
    rotate_left
    · simp only [Act.put, List.setIfInBounds_toArray, List.set_cons_zero, List.set_cons_succ, i64_w, i32_w]
      rfl
    refine pure_ (i := 8) (N := some 15) (v := ?_) (a' := ?_) #[true, true, false, false, true, true, false, false, true, false, false, false] rfl rfl (by kernel_rfl) (fun _ _ _ h => h) (Or.inl ⟨by rfl, ?_⟩) ?_ ?_
    rotate_left
    · intro w'
      go_simp
      with_reducible rfl
    rotate_left
    · simp only [Act.put, List.setIfInBounds_toArray, List.set_cons_zero, List.set_cons_succ, i64_w, i32_w]
      rfl
    refine take_ (i := 2) (N := some 9) (v := ?_) (a' := ?_) #[true, true, true, false, true, true, false, false, true, false, false, false] rfl rfl (by kernel_rfl) (fun _ _ _ h => h) (Or.inl ⟨by rfl, ?_⟩) hHeld ?_ ?_
    rotate_left
    · rintro w' ⟨s0, s1, s2⟩
      go_simp
      with_reducible rfl
    rotate_left
    · simp only [Act.put, List.setIfInBounds_toArray, List.set_cons_zero, List.set_cons_succ, i64_w, i32_w]
      rfl
    refine take_ (i := 6) (N := some 13) (v := ?_) (a' := ?_) #[true, true, true, false, true, true, true, false, true, false, false, false] rfl rfl (by kernel_rfl) (fun _ _ _ h => h) (Or.inl ⟨by rfl, ?_⟩) hHeld ?_ ?_
    rotate_left
    · rintro w' ⟨s0, s1, s2⟩
      go_simp
      with_reducible rfl
    rotate_left
    · simp only [Act.put, List.setIfInBounds_toArray, List.set_cons_zero, List.set_cons_succ, i64_w, i32_w]
      rfl
    refine take_ (i := 9) (N := some 16) (v := ?_) (a' := ?_) #[true, true, true, false, true, true, true, false, true, true, false, false] rfl rfl (by kernel_rfl) (fun _ _ _ h => h) (Or.inl ⟨by rfl, ?_⟩) hHeld ?_ ?_
    rotate_left
    · rintro w' ⟨s0, s1, s2⟩
      go_simp
      with_reducible rfl
    rotate_left
    · simp only [Act.put, List.setIfInBounds_toArray, List.set_cons_zero, List.set_cons_succ, i64_w, i32_w]
      rfl
    refine one_ (i := 3) (N := some 10) #[true, true, true, true, true, true, true, false, true, true, false, false] rfl rfl (by kernel_rfl) (by decide) (fun K hK => ?_)
    refine goesVS_ (s := 7) (g := 67) (lb := #[.pointer (some ⟨w.heap.size + 3, 0, none⟩)]) (by rfl) EG.out #[.slice A0_0 l0_0.length c0_0] (by rfl) rfl rfl (by (try simp only [List.map_toArray, List.map_cons, List.map_nil]); first | done | rfl) ?_
    refine (impl_renumbered.clo A0_0 c0_0 l0_0 (w.heap.size + 3) (w.heap.size + 2) 0 [] (.map []) w wd HB.out (by omega) (Kd.C_kept_came (Kd.heap_int _) HR0_0.out HB.out (fun k_ h_ => by omega)) HC0_0.out HW0.out (by have := HL0.out; omega) (by omega) ((blk_cell KB.out 0).trans rfl) (ownsMap_new KM.out) MapAs.start (by simp)).mono ?_
    rintro e w5 ⟨v1, rfl, ho, ⟨D1, hown, hD⟩, hb, hk⟩
    refine ⟨_, rfl, ?_⟩
    have HO1 := Aside0.mk ho
    have HM1 := Aside0.mk hown
    have HD1 := Aside0.mk hD
    have HK5 := Aside0.mk hk
    have n0_ := Aside0.mk (blk_kept KS.out hk (by omega))
    have n1_ := Aside0.mk (blk_kept KR.out hk (by omega))
    have n3_ := Aside0.mk (blk_kept KB.out hk (by omega))
    have n4_ := Aside0.mk hb
    clear KS KR KB HB KM ho hown hD hk hb
    have KS := n0_
    have KR := n1_
    have KB := n3_
    have HB := n4_
    clear n0_ n1_ n3_ n4_
    refine hK.out _ _ ⟨(blk_cell KS.out 0).trans rfl, (blk_cell KS.out 1).trans rfl, (blk_cell KS.out 2).trans rfl⟩ (fun hHeld => ?_)
    clear hK K
    refine norm_ (a' := ?_) ?_ ?_
    rotate_left
    · show Act.put _ (some 10) _ = _
      simp only [Act.put, List.setIfInBounds_toArray, List.set_cons_zero, List.set_cons_succ, i64_w, i32_w]
      rfl
    refine one_ (i := 7) (N := some 14) #[true, true, true, true, true, true, true, true, true, true, false, false] rfl rfl (by kernel_rfl) (by decide) (fun K hK => ?_)
    refine goesVS_ (s := 11) (g := 67) (lb := #[.pointer (some ⟨w.heap.size + 3, 0, none⟩)]) (by rfl) EG.out #[.slice A0_1 l0_1.length c0_1] (by rfl) rfl rfl (by (try simp only [List.map_toArray, List.map_cons, List.map_nil]); first | done | rfl) ?_
    refine (impl_renumbered.clo A0_1 c0_1 l0_1 (w.heap.size + 3) (w.heap.size + 2) (0 + l0_0.length) (ofSeen [] l0_0) D1 w w5 HB.out (by omega) (Kd.C_kept_came (Kd.heap_int _) HR0_1.out HB.out (fun k_ h_ => by omega)) HC0_1.out HW1.out (by have := HL1.out; omega) (by have := HL0.out; omega) ((blk_cell KB.out 0).trans rfl) HM1.out HD1.out (by have h1 := ofSeen_length l0_0 []; have := HL0.out; simp only [List.length_nil] at h1; omega)).mono ?_
    rintro e w6 ⟨v2, rfl, ho, _, hb, hk⟩
    refine ⟨_, rfl, ?_⟩
    have HO2 := Aside0.mk ho
    have HLT1 := Aside0.mk (Kd.R_lt HO1.out)
    have n0_ := Aside0.mk (blk_kept KS.out hk (by omega))
    have n1_ := Aside0.mk (blk_kept KR.out hk (by omega))
    have n4_ := Aside0.mk hb
    have n5_ := Aside0.mk (R_keptE HO1.out hk (fun k_ h_ e_ => by have h1 := Kd.R_base HO1.out k_ h_; have h2 := HSZ.out; omega))
    clear KS KR KB HB HM1 HD1 HO1 ho hk hb
    have KS := n0_
    have KR := n1_
    have HB := n4_
    have HO1 := n5_
    clear n0_ n1_ n4_ n5_
    obtain ⟨E0, d0, e0⟩ := Kd.R_slice HO1.out
    subst e0
    obtain ⟨E1, d1, e1⟩ := Kd.R_slice HO2.out
    subst e1
    refine hK.out _ _ ⟨(blk_cell KS.out 0).trans rfl, (blk_cell KS.out 1).trans rfl, (blk_cell KS.out 2).trans rfl⟩ (fun hHeld => ?_)
    clear hK K
    refine norm_ (a' := ?_) ?_ ?_
    rotate_left
    · show Act.put _ (some 14) _ = _
      simp only [Act.put, List.setIfInBounds_toArray, List.set_cons_zero, List.set_cons_succ, i64_w, i32_w]
      rfl
    refine pure_ (i := 10) (N := some 17) (v := ?_) (a' := ?_) #[true, true, true, true, true, true, true, true, true, true, true, false] rfl rfl (by kernel_rfl) (fun _ _ _ h => h) (Or.inl ⟨by rfl, ?_⟩) ?_ ?_
    rotate_left
    · intro w'
      go_simp
      with_reducible rfl
    rotate_left
    · simp only [Act.put, List.setIfInBounds_toArray, List.set_cons_zero, List.set_cons_succ, i64_w, i32_w]
      rfl
    refine last_ (i := 11) (N := none) #[true, true, true, true, true, true, true, true, true, true, true, true] rfl rfl (by kernel_rfl) (by decide) (fun K hK => ?_)
    have hz0 : w6.cell? ⟨w.heap.size + 1, 0, none⟩ = some (.slice none 0 0) := (blk_cell KR.out 0).trans rfl
    have hf0 := blk_frozen KR.out 0
    have hz1 : w6.cell? ⟨w.heap.size + 1, 1, none⟩ = some (.slice none 0 0) := (blk_cell KR.out 1).trans rfl
    have hf1 := blk_frozen KR.out 1
    have hz2 : w6.cell? ⟨w.heap.size + 1, 2, none⟩ = some (.int .i64 0) := (blk_cell KR.out 2).trans rfl
    have hf2 := blk_frozen KR.out 2
    refine skip_ (w1 := ?_) (by rfl) rfl ?_ ?_
    rotate_left
    · go_simp
      rfl
    refine hK.out _ _ ?_
    clear hK K
    refine done_ (by kernel_rfl) ?_
    try go_wp2
    refine bodyPost_ret (results_cell_row rfl _ _ (w.heap.size + 1) 27 #[(.slice E0 (ofOut [] l0_0).length d0), (.slice E1 (ofOut (ofSeen [] l0_0) l0_1).length d1), .int .i64 a0_2] (0, 0) _ rfl (by refine blk_put (cs := #[(.slice E0 (ofOut [] l0_0).length d0), (.slice E1 (ofOut (ofSeen [] l0_0) l0_1).length d1), .int .i64 0]) ?_ 2 _ rfl; refine blk_put (cs := #[(.slice E0 (ofOut [] l0_0).length d0), .slice none 0 0, .int .i64 0]) ?_ 1 _ rfl; refine blk_put (cs := #[.slice none 0 0, .slice none 0 0, .int .i64 0]) ?_ 0 _ rfl; exact KR.out) Try.underlying27 rfl (by kernel_rfl)) rfl ?_
    have hsz5 : w.heap.size ≤ wd.heap.size := by have := HSZ.out; omega
    exact ⟨_, _, rfl, Kd.R_mono (Kd.R_tight rfl (Kd.R_far (p := ⟨w.heap.size + 1, 2, none⟩) (Kd.R_far (p := ⟨w.heap.size + 1, 1, none⟩) (Kd.R_far (p := ⟨w.heap.size + 1, 0, none⟩) (Kd.R_types (Kd.R_lower HO1.out hsz5) KR.out (by decide)) (fun _ hk => hk.2) _) (fun _ hk => hk.2) _) (fun _ hk => hk.2) _)) (fun k_ hk_ e_ => by have h1 := HLT1.out k_ hk_.symm; have h2 := Kd.R_base HO2.out k_ e_.symm; omega), Kd.R_mono (Kd.R_tight rfl (Kd.R_far (p := ⟨w.heap.size + 1, 2, none⟩) (Kd.R_far (p := ⟨w.heap.size + 1, 1, none⟩) (Kd.R_far (p := ⟨w.heap.size + 1, 0, none⟩) (Kd.R_types (Kd.R_lower HO2.out (Nat.le_trans hsz5 HK5.out.1)) KR.out (by decide)) (fun _ hk => hk.2) _) (fun _ hk => hk.2) _) (fun _ hk => hk.2) _)) (fun k_ hk_ e_ => by have h1 := HLT1.out k_ e_.symm; have h2 := Kd.R_base HO2.out k_ hk_.symm; omega), by repeat (first | exact HB.out | refine below_set ?_ (Nat.le_succ _))⟩
  · cases h

end Go.Proofs.Ytlbaldejaapbiaa.QFnExactMirrorState
