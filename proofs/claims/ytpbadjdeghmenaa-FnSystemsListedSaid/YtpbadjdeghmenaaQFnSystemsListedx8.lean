-- Written by wip/myprint.py (a program of mine round the kit's printer). Lean checks it.
import Derived.Test.YtpbadjdeghmenaaQFnSystemsListedx0
import Derived.Test.YtpbadjdeghmenaaQFnSystemsListedx1
import Derived.Test.YtpbadjdeghmenaaQFnSystemsListedx2
import Derived.Test.YtpbadjdeghmenaaQFnSystemsListedx3
import Derived.Test.YtpbadjdeghmenaaQFnSystemsListedx5
import Derived.Test.YtpbadjdeghmenaaQFnSystemsListedx6
namespace Go.Proofs.Ytpbadjdeghmenaa.QFnSystemsListed
open Go.RowKit Go.Proofs.YtpbadjdeghmenaaW.PrintWords Go.Proofs.YtpbadjdeghmenaaW.PrintLast Go.Proofs.YtpbadjdeghmenaaW.PrintMore
attribute [local go_sem] max2_int min2_int max_two min_two max_three min_three max_four min_four   -- for this text's walks alone
set_option linter.unusedVariables false
set_option linter.unusedSimpArgs false

set_option maxHeartbeats 8000000
set_option maxRecDepth 100000
/-! ### impl_systemText: function 42 -/
def impl_systemText.l0 : Nat → List Int → List Int → Int → Int → Option (ByteArray)
 | 0, _, _, _, _ => none
 | k + 1, x3, x7, x8, x9 => if x9 < x8 then (if 0 ≤ x9 then (if x9 < (x7.length : Int) then (if x9 < (rd x7 x9) then (if x3.length < 140737488355328 then (impl_systemText.l0 k (x3 ++ [40]) x7 x8 (wrap64 (x9 + 1))) else (none)) else (if x3.length < 140737488355328 then (impl_systemText.l0 k (x3 ++ [41]) x7 x8 (wrap64 (x9 + 1))) else (none))) else (none)) else (none)) else (some (strOfNums x3))
def impl_systemText.f (k : Nat) (l0 : List Int) : Option (ByteArray) := impl_systemText.l0 k (([] : List Int)) l0 (l0.length : Int) 0
theorem impl_systemText.mono_l : ∀ k, (∀ y0 y1 y2 y3, LeO (impl_systemText.l0 k y0 y1 y2 y3) (impl_systemText.l0 (k + 1) y0 y1 y2 y3))
 | 0 => fun _ _ _ _ r h => by simp [impl_systemText.l0] at h
 | k + 1 => by
  have ih0 := impl_systemText.mono_l k
  ·intro y0 y1 y2 y3
   unfold impl_systemText.l0
   repeat' first
   | (with_reducible exact ih0 _ _ _ _)
   | (with_reducible exact LeO.refl _)
   | (with_reducible exact LeO.none _)
   | (with_reducible refine LeO.ite ?_ ?_)
   | (with_reducible refine LeO.bind ?_ (fun _ => ?_))
   | exact LeO.none _
   | refine LeO.ite ?_ ?_
   | refine LeO.bind ?_ (fun _ => ?_)
theorem impl_systemText.mono : ∀ a0 k, LeO (impl_systemText.f k a0) (impl_systemText.f (k + 1) a0) := by
 intro a0 k
 have ih0 := impl_systemText.mono_l k
 unfold impl_systemText.f
 repeat' first
   | (with_reducible exact ih0 _ _ _ _)
   | (with_reducible exact LeO.refl _)
   | (with_reducible exact LeO.none _)
   | (with_reducible refine LeO.ite ?_ ?_)
   | (with_reducible refine LeO.bind ?_ (fun _ => ?_))
   | exact LeO.none _
   | refine LeO.ite ?_ ?_
   | refine LeO.bind ?_ (fun _ => ?_)
theorem impl_systemText.calls (k : Nat) (A0 : Option Addr) (c0 : Nat) (l0 : List Int) (r : ByteArray) (w : World) (hr0 : Kd.C (Kd.int .i64) w A0 l0.length l0) (hc0 : l0.length ≤ c0) (h : impl_systemText.f k l0 = some r) :
  Calls Try.prog 42 #[.slice A0 l0.length c0] w fun e w' => e = .returned (.string r) ∧ Below w.heap.size w w' := by
 have HR0 := Aside0.mk hr0
 have HC0 := Aside0.mk hc0
 clear hr0 hc0
 have HB := Aside0.mk (Below.refl w.heap.size w)
 have H : (impl_systemText.l0 k (([] : List Int)) l0 (l0.length : Int) 0) = some r := h
 clear h
 obtain ⟨y371, hy371⟩ : ∃ y_ : List Int, y_ = (([] : List Int)) := ⟨_, rfl⟩
 replace H : (impl_systemText.l0 k y371 l0 (l0.length : Int) 0) = some r := by first | (rw [hy371]; with_reducible exact H) | (have H2_ := (Option.bind_some _ _).symm.trans H; rw [hy371]; with_reducible exact H2_) | (have H2_ := (Option.bind_some _ _).symm.trans H; with_reducible exact H2_) | with_reducible exact H | (rw [hy371]; exact H) | exact H
 have Ny371 := Aside0.mk hy371
 clear hy371
 have H' := Aside0.mk H
 clear H
 go_enter Try.func42, Try.ntmps42
 go_wp2_with (first | ((with_reducible refine gate_dst (N := 6) rfl ?_); refine Kd.R_lit (Kd.int .u8) _ 5 ?hg (N := 6) ?hd (xs := ([] : List Int)) (inner := []) (ok := fun _ => True) (okp := fun _ => True) ?hr ?hp (fun _ hk => hk) trivial (Below.refl _ _) (Nat.le_refl _) (by simp) ?_; (case hd => rfl); (case hg => rfl); (case hr => first | (go_simp; done) | (go_simp; rfl)); (case hp => exact (Reps.none _ _)); intro v372 w2 ho3 hb hg_ hnew_; clear hg_ hnew_; (first | rw [← Ny371.out] at ho3 | (simp only [Int.reduceToNat] at ho3; rw [← Ny371.out] at ho3)); have HO373 := Aside0.mk (Kd.R_lower ho3 (below_size (by repeat (first | exact HB.out | apply bA | apply bN | apply bD)))); replace HB := Aside0.mk (below_step (by repeat (first | exact HB.out | apply bA | apply bN | apply bD)) hb); clear hb ho3))
 go_loopg [3, 9] k (fun kq v3 v9 w' => ∃ (x3_1 : List Int) (x9_1 : Int), v9 = .int .i64 x9_1 ∧ Aside0 (impl_systemText.l0 kq x3_1 l0 (l0.length : Int) x9_1 = some r) ∧ Aside0 (kq ≤ k) ∧ Aside0 (Kd.R (Kd.int .u8) 5 w' w.heap.size (fun _ => True) v3 x3_1) ∧ Aside0 (Below w.heap.size w w'))
 case atStart => exact ⟨(y371), (0), (by first | rfl | (simp; done) | (simp [*]; done)), H', ⟨Nat.le_refl _⟩, ⟨by (with_reducible repeat (first | apply rA | apply rN | apply rD)); exact HO373.out⟩, ⟨by repeat (first | exact HB.out | apply bA | apply bN | apply bD)⟩⟩
 case round =>
  clear H'
  try clear p2
  obtain ⟨x3_1, x9_1, rfl, HA, HK1, HO_3, HB⟩ := hrel
  cases gk with
  | zero => exact absurd HA.out (by simp [impl_systemText.l0])
  | succ k1 =>
   have H := HA.out
   clear HA
   simp only [impl_systemText.l0] at H
   by_cases c4 : x9_1 < (l0.length : Int)
   ·rw [if_pos c4] at H
    have c4b0 : decide (x9_1 < (l0.length : Int)) = true := decide_eq_true c4
    clear c4
    by_cases c5 : 0 ≤ x9_1
    ·rw [if_pos c5] at H
     have c5b0 : decide (0 ≤ x9_1) = true := decide_eq_true c5
     clear c5
     by_cases c6 : x9_1 < (l0.length : Int)
     ·rw [if_pos c6] at H
      have c6b0 : decide (x9_1 < (l0.length : Int)) = true := decide_eq_true c6
      clear c6
      by_cases c7 : x9_1 < (rd l0 x9_1)
      ·rw [if_pos c7] at H
       have c7b0 : decide (x9_1 < (rd l0 x9_1)) = true := decide_eq_true c7
       clear c7
       by_cases c8 : x3_1.length < 140737488355328
       ·rw [if_pos c8] at H
        have LMc8 := Aside0.mk c8
        clear c8
        obtain ⟨y375, hy375⟩ : ∃ y_ : List Int, y_ = (x3_1 ++ [40]) := ⟨_, rfl⟩
        replace H : (impl_systemText.l0 k1 y375 l0 (l0.length : Int) (wrap64 (x9_1 + 1))) = some r := by first | (rw [hy375]; with_reducible exact H) | (have H2_ := (Option.bind_some _ _).symm.trans H; rw [hy375]; with_reducible exact H2_) | (have H2_ := (Option.bind_some _ _).symm.trans H; with_reducible exact H2_) | with_reducible exact H | (rw [hy375]; exact H) | exact H
        have Ny375 := Aside0.mk hy375
        clear hy375
        have H' := Aside0.mk H
        clear H
        have p374 : 0 ≤ (x9_1 : Int) := of_decide_eq_true (by assumption)
        have q374 : x9_1 < (l0.length : Int) := of_decide_eq_true (by assumption)
        obtain ⟨ad374, e374, hx374_0⟩ := Kd.at_int HR0.out x9_1 p374 q374
        cases e374
        replace hx374_0 := (HB.out.cell (World.block_lt_of_cell? w _ hx374_0)).trans hx374_0
        replace p374 := eq_true p374
        replace q374 := eq_true q374
        go_wp2_with (first | ((with_reducible refine gate_builtin (b := .append) (xs := #[.tmp 17, .tmp 18]) rfl ?_); at_builtin; refine Kd.R_append (Kd.int .u8) (w0 := w) w.heap.size rfl (.tmp 17) (.tmp 18) 22 5 (.int .u8 0) 1 rfl Try.underlying22 info5 rfl (by decide) (by omega) u3 x3_1 40 [.int .u8 40] (fun _ => True) (fun _ => False) rfl rfl ?aP (fun _ hk => hk.elim) ?aF ?aO ?aB ?aS ?aL ?_; (case aP => exact rfl); (case aB => exact (by repeat (first | exact HB.out | apply bA | apply bN | apply bD))); (case aF => exact (fun _ _ => trivial)); (case aO => exact (by (with_reducible repeat (first | apply rA | apply rN | apply rD)); exact HO_3.out)); (case aS => exact (below_size (by repeat (first | exact HB.out | apply bA | apply bN | apply bD)))); (case aL => have := LMc8.out; omega); intro v376 w9 ho hb hg hat; rw [← Ny375.out] at ho; replace HB := Aside0.mk (hb); have HO377 := Aside0.mk (ho); clear HO_3; clear ho hb hg hat))
        go_roundg k1
        case measure => have := HK1.out; omega
        case rel => exact ⟨(y375), (wrap64 (x9_1 + 1)), (by first | rfl | (simp; done) | (simp [*]; done)), H', ⟨by have := HK1.out; omega⟩, ⟨by (with_reducible repeat (first | apply rA | apply rN | apply rD)); exact HO377.out⟩, ⟨by repeat (first | exact HB.out | apply bA | apply bN | apply bD)⟩⟩
       ·rw [if_neg c8] at H
        exact absurd H (by simp)
      ·rw [if_neg c7] at H
       have c7b0 : decide (x9_1 < (rd l0 x9_1)) = false := decide_eq_false c7
       clear c7
       by_cases c10 : x3_1.length < 140737488355328
       ·rw [if_pos c10] at H
        have LMc10 := Aside0.mk c10
        clear c10
        obtain ⟨y378, hy378⟩ : ∃ y_ : List Int, y_ = (x3_1 ++ [41]) := ⟨_, rfl⟩
        replace H : (impl_systemText.l0 k1 y378 l0 (l0.length : Int) (wrap64 (x9_1 + 1))) = some r := by first | (rw [hy378]; with_reducible exact H) | (have H2_ := (Option.bind_some _ _).symm.trans H; rw [hy378]; with_reducible exact H2_) | (have H2_ := (Option.bind_some _ _).symm.trans H; with_reducible exact H2_) | with_reducible exact H | (rw [hy378]; exact H) | exact H
        have Ny378 := Aside0.mk hy378
        clear hy378
        have H' := Aside0.mk H
        clear H
        have p374 : 0 ≤ (x9_1 : Int) := of_decide_eq_true (by assumption)
        have q374 : x9_1 < (l0.length : Int) := of_decide_eq_true (by assumption)
        obtain ⟨ad374, e374, hx374_0⟩ := Kd.at_int HR0.out x9_1 p374 q374
        cases e374
        replace hx374_0 := (HB.out.cell (World.block_lt_of_cell? w _ hx374_0)).trans hx374_0
        replace p374 := eq_true p374
        replace q374 := eq_true q374
        go_wp2_with (first | ((with_reducible refine gate_builtin (b := .append) (xs := #[.tmp 20, .tmp 21]) rfl ?_); at_builtin; refine Kd.R_append (Kd.int .u8) (w0 := w) w.heap.size rfl (.tmp 20) (.tmp 21) 22 5 (.int .u8 0) 1 rfl Try.underlying22 info5 rfl (by decide) (by omega) u3 x3_1 41 [.int .u8 41] (fun _ => True) (fun _ => False) rfl rfl ?aP (fun _ hk => hk.elim) ?aF ?aO ?aB ?aS ?aL ?_; (case aP => exact rfl); (case aB => exact (by repeat (first | exact HB.out | apply bA | apply bN | apply bD))); (case aF => exact (fun _ _ => trivial)); (case aO => exact (by (with_reducible repeat (first | apply rA | apply rN | apply rD)); exact HO_3.out)); (case aS => exact (below_size (by repeat (first | exact HB.out | apply bA | apply bN | apply bD)))); (case aL => have := LMc10.out; omega); intro v379 w11 ho hb hg hat; rw [← Ny378.out] at ho; replace HB := Aside0.mk (hb); have HO380 := Aside0.mk (ho); clear HO_3; clear ho hb hg hat))
        go_roundg k1
        case measure => have := HK1.out; omega
        case rel => exact ⟨(y378), (wrap64 (x9_1 + 1)), (by first | rfl | (simp; done) | (simp [*]; done)), H', ⟨by have := HK1.out; omega⟩, ⟨by (with_reducible repeat (first | apply rA | apply rN | apply rD)); exact HO380.out⟩, ⟨by repeat (first | exact HB.out | apply bA | apply bN | apply bD)⟩⟩
       ·rw [if_neg c10] at H
        exact absurd H (by simp)
     ·rw [if_neg c6] at H
      exact absurd H (by simp)
    ·rw [if_neg c5] at H
     exact absurd H (by simp)
   ·rw [if_neg c4] at H
    have c4b0 : decide (x9_1 < (l0.length : Int)) = false := decide_eq_false c4
    clear c4
    obtain rfl := Option.some.inj H
    have hcv12 := own_string (P := Try.prog) Try.underlying22 Try.underlying5 Try.underlying9 (Kd.own_of_R HO_3.out)
    go_wp2
    go_ret
    exact ⟨by first | rfl | (simp [*, errW_none, errW_some] <;> rfl), by repeat (first | exact HB.out | apply bA | apply bN | apply bD)⟩

/-! ### impl_SystemText: function 20 -/
def impl_SystemText.f (k : Nat) (l0 : List Int) : Option (ByteArray × Bool) := (impl_IsSystem.f k l0).bind fun t381 => (if t381 = true then ((impl_systemText.f k l0).bind fun t382 => (some (t382, true))) else (some ((⟨#[]⟩ : ByteArray), false)))
theorem impl_SystemText.mono : ∀ a0 k, LeO (impl_SystemText.f k a0) (impl_SystemText.f (k + 1) a0) := by
 intro a0 k
 unfold impl_SystemText.f
 repeat' first
   | (with_reducible exact impl_IsSystem.mono _ _)
   | (with_reducible exact impl_systemText.mono _ _)
   | (with_reducible exact LeO.refl _)
   | (with_reducible exact LeO.none _)
   | (with_reducible refine LeO.ite ?_ ?_)
   | (with_reducible refine LeO.bind ?_ (fun _ => ?_))
   | exact LeO.none _
   | refine LeO.ite ?_ ?_
   | refine LeO.bind ?_ (fun _ => ?_)
theorem impl_SystemText.calls (k : Nat) (A0 : Option Addr) (c0 : Nat) (l0 : List Int) (r1 : ByteArray) (r2 : Bool) (w : World) (hr0 : Kd.C (Kd.int .i64) w A0 l0.length l0) (hc0 : l0.length ≤ c0) (h : impl_SystemText.f k l0 = some (r1, r2)) :
  Calls Try.prog 20 #[.slice A0 l0.length c0] w fun e w' => e = .returned (.tuple #[.string r1, .bool r2]) ∧ Below w.heap.size w w' := by
 have HR0 := Aside0.mk hr0
 have HC0 := Aside0.mk hc0
 clear hr0 hc0
 have HB := Aside0.mk (Below.refl w.heap.size w)
 have H : ((impl_IsSystem.f k l0).bind fun t381 => (if t381 = true then ((impl_systemText.f k l0).bind fun t382 => (some (t382, true))) else (some ((⟨#[]⟩ : ByteArray), false)))) = some (r1, r2) := h
 clear h
 replace H := Option.bind_eq_some_iff.mp H
 obtain ⟨t381, A20, H⟩ := H
 replace H : (if t381 = true then ((impl_systemText.f k l0).bind fun t382 => (some (t382, true))) else (some ((⟨#[]⟩ : ByteArray), false))) = some (r1, r2) := H
 have A2 := Aside0.mk A20
 clear A20
 by_cases c3 : t381 = true
 ·subst c3
  have H1 : ((impl_systemText.f k l0).bind fun t382 => (some (t382, true))) = some (r1, r2) := by rw [if_pos rfl] at H; exact H
  clear H
  have H := H1
  clear H1
  replace H := Option.bind_eq_some_iff.mp H
  obtain ⟨t382, A40, H⟩ := H
  replace H : (some (t382, true)) = some (r1, r2) := H
  have A4 := Aside0.mk A40
  clear A40
  simp only [Option.some.injEq, Prod.mk.injEq] at H
  obtain ⟨rfl, rfl⟩ := H
  go_enter Try.func20, Try.ntmps20
  go_wp2_with (first | ((with_reducible refine gate_callee (f := 15) rfl ?_); refine goesL_ (some 5) rfl rfl Try.func15 (by kernel_rfl) rfl #[.slice A0 l0.length c0] rfl (by (try simp only [List.map_toArray, List.map_cons, List.map_nil]); first | done | rfl) ?_; (with_reducible refine (impl_IsSystem.calls k _ _ l0 true _ ?side1 ?side2 A2.out).mono ?_); (case side1 => repeat (first | exact HR0.out | (with_reducible refine Kd.C_alloc ?_ _) | (with_reducible refine Kd.C_drewN ?_ _) | (with_reducible refine Kd.C_drew ?_))); (case side2 => exact HC0.out); rintro e w' ⟨rfl, ⟨nd, rfl⟩⟩; refine ⟨_, rfl, ?_⟩) | ((with_reducible refine gate_callee (f := 42) rfl ?_); refine goesL_ (some 8) rfl rfl Try.func42 (by kernel_rfl) rfl #[.slice A0 l0.length c0] rfl (by (try simp only [List.map_toArray, List.map_cons, List.map_nil]); first | done | rfl) ?_; (with_reducible refine (impl_systemText.calls k _ _ l0 t382 _ ?side1 ?side2 A4.out).mono ?_); (case side1 => repeat (first | exact HR0.out | (with_reducible refine Kd.C_alloc ?_ _) | (with_reducible refine Kd.C_drewN ?_ _) | (with_reducible refine Kd.C_drew ?_))); (case side2 => exact HC0.out); rintro e w5 ⟨rfl, hb⟩; refine ⟨_, rfl, ?_⟩; replace HB := Aside0.mk (below_step (by repeat (first | exact HB.out | apply bA | apply bN | apply bD)) hb); (try clear hb2); (try clear hb hk hi)))
  go_ret2
  exact ⟨by first | rfl | (simp [*, errW_none, errW_some] <;> rfl), by repeat (first | exact HB.out | apply bA | apply bN | apply bD)⟩
 ·replace c3 := Bool.eq_false_iff.mpr c3
  subst c3
  have H1 : (some ((⟨#[]⟩ : ByteArray), false)) = some (r1, r2) := by rw [if_neg (show ¬ (false = true) by decide)] at H; exact H
  clear H
  have H := H1
  clear H1
  simp only [Option.some.injEq, Prod.mk.injEq] at H
  obtain ⟨rfl, rfl⟩ := H
  go_enter Try.func20, Try.ntmps20
  go_wp2_with (first | ((with_reducible refine gate_callee (f := 15) rfl ?_); refine goesL_ (some 5) rfl rfl Try.func15 (by kernel_rfl) rfl #[.slice A0 l0.length c0] rfl (by (try simp only [List.map_toArray, List.map_cons, List.map_nil]); first | done | rfl) ?_; (with_reducible refine (impl_IsSystem.calls k _ _ l0 false _ ?side1 ?side2 A2.out).mono ?_); (case side1 => repeat (first | exact HR0.out | (with_reducible refine Kd.C_alloc ?_ _) | (with_reducible refine Kd.C_drewN ?_ _) | (with_reducible refine Kd.C_drew ?_))); (case side2 => exact HC0.out); rintro e w' ⟨rfl, ⟨nd, rfl⟩⟩; refine ⟨_, rfl, ?_⟩))
  go_ret2
  exact ⟨by first | rfl | (simp [*, errW_none, errW_some] <;> rfl), by repeat (first | exact HB.out | apply bA | apply bN | apply bD)⟩

/-! ### spec_ahFlat: function 60 -/
def spec_ahFlat.l0 : Nat → Int → List Int → Int → Option (List Int)
 | 0, _, _, _ => none
 | k + 1, x0, x3, x4 => if x4 < x0 then ((some (([wrap64 ((wrap64 (2 * x4)) + 1), wrap64 (2 * x4)] : List Int) : List Int)).bind fun y383 => (if x3.length + y383.length < 17592186044416 then (spec_ahFlat.l0 k x0 (x3 ++ y383) (wrap64 (x4 + 1))) else (none))) else (some x3)
def spec_ahFlat.f (k : Nat) (a0 : Int) : Option (List Int) := spec_ahFlat.l0 k a0 ([] : List Int) 0
theorem spec_ahFlat.mono_l : ∀ k, (∀ y0 y1 y2, LeO (spec_ahFlat.l0 k y0 y1 y2) (spec_ahFlat.l0 (k + 1) y0 y1 y2))
 | 0 => fun _ _ _ r h => by simp [spec_ahFlat.l0] at h
 | k + 1 => by
  have ih0 := spec_ahFlat.mono_l k
  ·intro y0 y1 y2
   unfold spec_ahFlat.l0
   repeat' first
   | (with_reducible exact ih0 _ _ _)
   | (with_reducible exact LeO.refl _)
   | (with_reducible exact LeO.none _)
   | (with_reducible refine LeO.ite ?_ ?_)
   | (with_reducible refine LeO.bind ?_ (fun _ => ?_))
   | exact LeO.none _
   | refine LeO.ite ?_ ?_
   | refine LeO.bind ?_ (fun _ => ?_)
theorem spec_ahFlat.mono : ∀ a0 k, LeO (spec_ahFlat.f k a0) (spec_ahFlat.f (k + 1) a0) := by
 intro a0 k
 have ih0 := spec_ahFlat.mono_l k
 unfold spec_ahFlat.f
 repeat' first
   | (with_reducible exact ih0 _ _ _)
   | (with_reducible exact LeO.refl _)
   | (with_reducible exact LeO.none _)
   | (with_reducible refine LeO.ite ?_ ?_)
   | (with_reducible refine LeO.bind ?_ (fun _ => ?_))
   | exact LeO.none _
   | refine LeO.ite ?_ ?_
   | refine LeO.bind ?_ (fun _ => ?_)
theorem spec_ahFlat.calls (k : Nat) (a0 : Int) (r : List Int) (w : World) (h : spec_ahFlat.f k a0 = some r) :
  Calls Try.prog 60 #[.int .i64 a0] w fun e w' => ∃ v0_ : Value, e = .returned (v0_) ∧ Kd.R (Kd.int .i64) 3 w' w.heap.size (fun _ => True) v0_ r ∧ Below w.heap.size w w' := by
 have HB := Aside0.mk (Below.refl w.heap.size w)
 have H : (spec_ahFlat.l0 k a0 ([] : List Int) 0) = some r := h
 clear h
 have H' := Aside0.mk H
 clear H
 go_enter Try.func60, Try.ntmps60
 go_wp2
 go_loopg [3, 4] k (fun kq v3 v4 w' => ∃ (x3_1 : List Int) (x4_1 : Int), v4 = .int .i64 x4_1 ∧ Aside0 (spec_ahFlat.l0 kq a0 x3_1 x4_1 = some r) ∧ Aside0 (kq ≤ k) ∧ Aside0 (Kd.R (Kd.int .i64) 3 w' w.heap.size (fun _ => True) v3 x3_1) ∧ Aside0 (Below w.heap.size w w'))
 case atStart => exact ⟨(([] : List Int)), (0), (by first | rfl | (simp; done) | (simp [*]; done)), H', ⟨Nat.le_refl _⟩, ⟨by first | exact Kd.R_nil _ _ _ _ _ | exact Kd.N_nil _ _ _ _ _ | exact Kd.V_nil _ _ _ _ _ | exact Kd.Q_nil _ _ _ _ _ | exact Kd.S_nil _ _ _ _ _⟩, ⟨by repeat (first | exact HB.out | apply bA | apply bN | apply bD)⟩⟩
 case round =>
  clear H'
  obtain ⟨x3_1, x4_1, rfl, HA, HK1, HO_3, HB⟩ := hrel
  cases gk with
  | zero => exact absurd HA.out (by simp [spec_ahFlat.l0])
  | succ k1 =>
   have H := HA.out
   clear HA
   simp only [spec_ahFlat.l0] at H
   by_cases c2 : x4_1 < a0
   ·rw [if_pos c2] at H
    have c2b0 : decide (x4_1 < a0) = true := decide_eq_true c2
    clear c2
    obtain ⟨y383, hy383⟩ : ∃ y_ : List Int, y_ = (([wrap64 ((wrap64 (2 * x4_1)) + 1), wrap64 (2 * x4_1)] : List Int)) := ⟨_, rfl⟩
    replace H : (if x3_1.length + y383.length < 17592186044416 then (spec_ahFlat.l0 k1 a0 (x3_1 ++ y383) (wrap64 (x4_1 + 1))) else (none)) = some r := by first | (rw [hy383]; with_reducible exact H) | (have H2_ := (Option.bind_some _ _).symm.trans H; rw [hy383]; with_reducible exact H2_) | (have H2_ := (Option.bind_some _ _).symm.trans H; with_reducible exact H2_) | with_reducible exact H | (rw [hy383]; exact H) | exact H
    have Ny383 := Aside0.mk hy383
    clear hy383
    by_cases c3 : x3_1.length + y383.length < 17592186044416
    ·rw [if_pos c3] at H
     have LMc3 := Aside0.mk c3
     clear c3
     obtain ⟨y386, hy386⟩ : ∃ y_ : List Int, y_ = (x3_1 ++ y383) := ⟨_, rfl⟩
     replace H : (spec_ahFlat.l0 k1 a0 y386 (wrap64 (x4_1 + 1))) = some r := by first | (rw [hy386]; with_reducible exact H) | (have H2_ := (Option.bind_some _ _).symm.trans H; rw [hy386]; with_reducible exact H2_) | (have H2_ := (Option.bind_some _ _).symm.trans H; with_reducible exact H2_) | with_reducible exact H | (rw [hy386]; exact H) | exact H
     have Ny386 := Aside0.mk hy386
     clear hy386
     have H' := Aside0.mk H
     clear H
     go_wp2_with (first | ((with_reducible refine gate_dst (N := 16) rfl ?_); refine Kd.R_lit (Kd.int .i64) _ 3 ?hg (N := 16) ?hd (xs := ([wrap64 ((wrap64 (2 * x4_1)) + 1), wrap64 (2 * x4_1)] : List Int)) (inner := [.int .i64 (wrap64 ((wrap64 (2 * x4_1)) + 1)), .int .i64 (wrap64 (2 * x4_1))]) (ok := fun _ => True) (okp := fun _ => True) ?hr ?hp (fun _ hk => hk) trivial (Below.refl _ _) (Nat.le_refl _) (by simp) ?_; (case hd => rfl); (case hg => rfl); (case hr => first | (go_simp; done) | (go_simp; rfl)); (case hp => exact (Reps.one (show Kd.M (Kd.int .i64) _ _ _ (wrap64 ((wrap64 (2 * x4_1)) + 1)) [.int .i64 (wrap64 ((wrap64 (2 * x4_1)) + 1))] from rfl) (Reps.one (show Kd.M (Kd.int .i64) _ _ _ (wrap64 (2 * x4_1)) [.int .i64 (wrap64 (2 * x4_1))] from rfl) (Reps.none _ _)))); intro v384 w4 ho5 hb hg_ hnew_; clear hg_ hnew_; (first | rw [← Ny383.out] at ho5 | (simp only [Int.reduceToNat] at ho5; rw [← Ny383.out] at ho5)); have HO385 := Aside0.mk (Kd.R_lower (Kd.R_new' ho5 (Kd.R_lt (by (with_reducible repeat (first | apply rA | apply rN | apply rD)); exact HO_3.out))) (below_size (by repeat (first | exact HB.out | apply bA | apply bN | apply bD)))); replace HO_3 := Aside0.mk (Kd.R_elder' (by (with_reducible repeat (first | apply rA | apply rN | apply rD)); exact HO_3.out) (Kd.R_base ho5) hb); replace HB := Aside0.mk (below_step (by repeat (first | exact HB.out | apply bA | apply bN | apply bD)) hb); clear hb ho5; obtain ⟨Ao7, co7, eo7⟩ := Kd.R_slice HO385.out; subst eo7) | ((with_reducible refine gate_builtin (b := .append) (xs := #[.tmp 10, .tmp 16]) rfl ?_); at_builtin; refine Kd.R_append_rows (Kd.int .i64) (w0 := w) w.heap.size rfl (.tmp 10) (.tmp 16) 26 3 (.int .i64 0) 8 rfl Try.underlying26 info3 rfl (by decide) (by omega) u3 x3_1 y383 _ _ _ (fun k_ => some k_ ≠ (.slice Ao7 y383.length co7 : Value).ownBlock) (fun _ => False) rfl rfl ?aO ?aR (fun _ _ h => h) (fun _ h => h.elim) ?aF ?aB ?aS ?aL ?_; (case aR => repeat (first | exact (Kd.R_reads' HO385.out).2.2 | (with_reducible refine Kd.C_alloc ?_ _) | (with_reducible refine Kd.C_drewN ?_ _) | (with_reducible refine Kd.C_drew ?_))); (case aB => exact (by repeat (first | exact HB.out | apply bA | apply bN | apply bD))); (case aF => exact (fun k_ hk => Kd.fresh' (Kd.R_lt (by (with_reducible repeat (first | apply rA | apply rN | apply rD)); exact HO385.out)) k_ hk)); (case aO => exact (by (with_reducible repeat (first | apply rA | apply rN | apply rD)); exact Kd.R_mono HO_3.out (fun _ hk => hk.2))); (case aS => exact (below_size (by repeat (first | exact HB.out | apply bA | apply bN | apply bD)))); (case aL => have := LMc3.out; omega); intro v387 w6 ho hb hg hat; rw [← Ny386.out] at ho; replace HO385 := Aside0.mk (Kd.R_after (ok := (fun _ => True)) (by (with_reducible repeat (first | apply rA | apply rN | apply rD)); exact HO385.out) hg hat); replace HB := Aside0.mk (hb); have HO388 := Aside0.mk (ho); clear HO_3; clear ho hb hg hat))
     go_roundg k1
     case measure => have := HK1.out; omega
     case rel => exact ⟨(y386), (wrap64 (x4_1 + 1)), (by first | rfl | (simp; done) | (simp [*]; done)), H', ⟨by have := HK1.out; omega⟩, ⟨by (with_reducible repeat (first | apply rA | apply rN | apply rD)); exact Kd.R_mono HO388.out (fun _ hk => trivial)⟩, ⟨by repeat (first | exact HB.out | apply bA | apply bN | apply bD)⟩⟩
    ·rw [if_neg c3] at H
     exact absurd H (by simp)
   ·rw [if_neg c2] at H
    have c2b0 : decide (x4_1 < a0) = false := decide_eq_false c2
    clear c2
    obtain rfl := Option.some.inj H
    go_wp2
    go_ret
    exact ⟨_, by first | rfl | (simp [*, errW_none, errW_some] <;> rfl), by (with_reducible repeat (first | apply rA | apply rN | apply rD)); exact HO_3.out, by repeat (first | exact HB.out | apply bA | apply bN | apply bD)⟩

/-! ### spec_ahRainbow: function 61 -/
def spec_ahRainbow.l0 : Nat → List Int → Int → Option (List Int)
 | 0, _, _ => none
 | k + 1, x3, x4 => if x4 ≥ 0 then (if x3.length < 17592186044416 then (spec_ahRainbow.l0 k (x3 ++ [x4]) (wrap64 (x4 - 1))) else (none)) else (some x3)
def spec_ahRainbow.f (k : Nat) (a0 : Int) : Option (List Int) := spec_ahRainbow.l0 k ([] : List Int) (wrap64 ((wrap64 (2 * a0)) - 1))
theorem spec_ahRainbow.mono_l : ∀ k, (∀ y0 y1, LeO (spec_ahRainbow.l0 k y0 y1) (spec_ahRainbow.l0 (k + 1) y0 y1))
 | 0 => fun _ _ r h => by simp [spec_ahRainbow.l0] at h
 | k + 1 => by
  have ih0 := spec_ahRainbow.mono_l k
  ·intro y0 y1
   unfold spec_ahRainbow.l0
   repeat' first
   | (with_reducible exact ih0 _ _)
   | (with_reducible exact LeO.refl _)
   | (with_reducible exact LeO.none _)
   | (with_reducible refine LeO.ite ?_ ?_)
   | (with_reducible refine LeO.bind ?_ (fun _ => ?_))
   | exact LeO.none _
   | refine LeO.ite ?_ ?_
   | refine LeO.bind ?_ (fun _ => ?_)
theorem spec_ahRainbow.mono : ∀ a0 k, LeO (spec_ahRainbow.f k a0) (spec_ahRainbow.f (k + 1) a0) := by
 intro a0 k
 have ih0 := spec_ahRainbow.mono_l k
 unfold spec_ahRainbow.f
 repeat' first
   | (with_reducible exact ih0 _ _)
   | (with_reducible exact LeO.refl _)
   | (with_reducible exact LeO.none _)
   | (with_reducible refine LeO.ite ?_ ?_)
   | (with_reducible refine LeO.bind ?_ (fun _ => ?_))
   | exact LeO.none _
   | refine LeO.ite ?_ ?_
   | refine LeO.bind ?_ (fun _ => ?_)
theorem spec_ahRainbow.calls (k : Nat) (a0 : Int) (r : List Int) (w : World) (h : spec_ahRainbow.f k a0 = some r) :
  Calls Try.prog 61 #[.int .i64 a0] w fun e w' => ∃ v0_ : Value, e = .returned (v0_) ∧ Kd.R (Kd.int .i64) 3 w' w.heap.size (fun _ => True) v0_ r ∧ Below w.heap.size w w' := by
 have HB := Aside0.mk (Below.refl w.heap.size w)
 have H : (spec_ahRainbow.l0 k ([] : List Int) (wrap64 ((wrap64 (2 * a0)) - 1))) = some r := h
 clear h
 have H' := Aside0.mk H
 clear H
 go_enter Try.func61, Try.ntmps61
 go_wp2
 go_loopg [3, 4] k (fun kq v3 v4 w' => ∃ (x3_1 : List Int) (x4_1 : Int), v4 = .int .i64 x4_1 ∧ Aside0 (spec_ahRainbow.l0 kq x3_1 x4_1 = some r) ∧ Aside0 (kq ≤ k) ∧ Aside0 (Kd.R (Kd.int .i64) 3 w' w.heap.size (fun _ => True) v3 x3_1) ∧ Aside0 (Below w.heap.size w w'))
 case atStart => exact ⟨(([] : List Int)), (wrap64 ((wrap64 (2 * a0)) - 1)), (by first | rfl | (simp; done) | (simp [*]; done)), H', ⟨Nat.le_refl _⟩, ⟨by first | exact Kd.R_nil _ _ _ _ _ | exact Kd.N_nil _ _ _ _ _ | exact Kd.V_nil _ _ _ _ _ | exact Kd.Q_nil _ _ _ _ _ | exact Kd.S_nil _ _ _ _ _⟩, ⟨by repeat (first | exact HB.out | apply bA | apply bN | apply bD)⟩⟩
 case round =>
  clear H'
  obtain ⟨x3_1, x4_1, rfl, HA, HK1, HO_3, HB⟩ := hrel
  cases gk with
  | zero => exact absurd HA.out (by simp [spec_ahRainbow.l0])
  | succ k1 =>
   have H := HA.out
   clear HA
   simp only [spec_ahRainbow.l0] at H
   by_cases c2 : x4_1 ≥ 0
   ·rw [if_pos c2] at H
    have c2b0 : decide (0 ≤ x4_1) = true := decide_eq_true c2
    clear c2
    by_cases c3 : x3_1.length < 17592186044416
    ·rw [if_pos c3] at H
     have LMc3 := Aside0.mk c3
     clear c3
     obtain ⟨y389, hy389⟩ : ∃ y_ : List Int, y_ = (x3_1 ++ [x4_1]) := ⟨_, rfl⟩
     replace H : (spec_ahRainbow.l0 k1 y389 (wrap64 (x4_1 - 1))) = some r := by first | (rw [hy389]; with_reducible exact H) | (have H2_ := (Option.bind_some _ _).symm.trans H; rw [hy389]; with_reducible exact H2_) | (have H2_ := (Option.bind_some _ _).symm.trans H; with_reducible exact H2_) | with_reducible exact H | (rw [hy389]; exact H) | exact H
     have Ny389 := Aside0.mk hy389
     clear hy389
     have H' := Aside0.mk H
     clear H
     go_wp2_with (first | ((with_reducible refine gate_builtin (b := .append) (xs := #[.tmp 12, .tmp 14]) rfl ?_); at_builtin; refine Kd.R_append (Kd.int .i64) (w0 := w) w.heap.size rfl (.tmp 12) (.tmp 14) 26 3 (.int .i64 0) 8 rfl Try.underlying26 info3 rfl (by decide) (by omega) u3 x3_1 x4_1 [.int .i64 x4_1] (fun _ => True) (fun _ => False) rfl rfl ?aP (fun _ hk => hk.elim) ?aF ?aO ?aB ?aS ?aL ?_; (case aP => exact rfl); (case aB => exact (by repeat (first | exact HB.out | apply bA | apply bN | apply bD))); (case aF => exact (fun _ _ => trivial)); (case aO => exact (by (with_reducible repeat (first | apply rA | apply rN | apply rD)); exact HO_3.out)); (case aS => exact (below_size (by repeat (first | exact HB.out | apply bA | apply bN | apply bD)))); (case aL => have := LMc3.out; omega); intro v390 w4 ho hb hg hat; rw [← Ny389.out] at ho; replace HB := Aside0.mk (hb); have HO391 := Aside0.mk (ho); clear HO_3; clear ho hb hg hat))
     go_roundg k1
     case measure => have := HK1.out; omega
     case rel => exact ⟨(y389), (wrap64 (x4_1 - 1)), (by first | rfl | (simp; done) | (simp [*]; done)), H', ⟨by have := HK1.out; omega⟩, ⟨by (with_reducible repeat (first | apply rA | apply rN | apply rD)); exact HO391.out⟩, ⟨by repeat (first | exact HB.out | apply bA | apply bN | apply bD)⟩⟩
    ·rw [if_neg c3] at H
     exact absurd H (by simp)
   ·rw [if_neg c2] at H
    have c2b0 : decide (0 ≤ x4_1) = false := decide_eq_false c2
    clear c2
    obtain rfl := Option.some.inj H
    go_wp2
    go_ret
    exact ⟨_, by first | rfl | (simp [*, errW_none, errW_some] <;> rfl), by (with_reducible repeat (first | apply rA | apply rN | apply rD)); exact HO_3.out, by repeat (first | exact HB.out | apply bA | apply bN | apply bD)⟩

/-! ### spec_l1Cur_system: function 52 -/
def spec_l1Cur_system.f (k : Nat) (s0_0 : List Int) (s0_1 : Int) (s0_2 : Int) (a1 : Int) : Option (List Int × Int × Int) := (spec_l1Cur_pick.f s0_0 s0_1 s0_2 (wrap64 (a1 + 1))).bind fun bt392 => ((spec_l1Cur_sure.f k s0_0 bt392.2.1 bt392.2.2 bt392.1).bind fun bt395 => ((spec_l1Cur_pick.f s0_0 bt395.2.1 bt395.2.2 16).bind fun bt400 => (if bt400.1 = 0 then (if (bt395.1.length : Int) > 0 then ((spec_l1Cur_pick.f s0_0 bt400.2.1 bt400.2.2 (bt395.1.length : Int)).bind fun bt403 => ((spec_l1Cur_pick.f s0_0 bt403.2.1 bt403.2.2 (wrap64 ((bt395.1.length : Int) + 2))).bind fun bt406 => (if 0 ≤ bt403.1 then (if bt403.1 < (bt395.1.length : Int) then (some ((bt395.1.set (bt403.1 : Int).toNat (wrap64 (bt406.1 - 1))), bt406.2.1, bt406.2.2)) else (none)) else (none)))) else (some (bt395.1, bt400.2.1, bt400.2.2))) else (if bt400.1 = 1 then (if bt395.1.length < 17592186044416 then (some ((bt395.1 ++ [wrap64 ((bt395.1.length : Int) + 1)]), bt400.2.1, bt400.2.2)) else (none)) else (if bt400.1 = 2 then ((spec_l1Cur_pick.f s0_0 bt400.2.1 bt400.2.2 2).bind fun bt413 => ((spec_ahFlat.f k (wrap64 (6 + bt413.1))).bind fun t416 => (some (t416, bt413.2.1, bt413.2.2)))) else (if bt400.1 = 3 then ((spec_l1Cur_pick.f s0_0 bt400.2.1 bt400.2.2 7).bind fun bt419 => ((spec_ahRainbow.f k bt419.1).bind fun t422 => (some (t422, bt419.2.1, bt419.2.2)))) else (some (bt395.1, bt400.2.1, bt400.2.2))))))))
theorem spec_l1Cur_system.mono : ∀ a0 a1 a2 a3 k, LeO (spec_l1Cur_system.f k a0 a1 a2 a3) (spec_l1Cur_system.f (k + 1) a0 a1 a2 a3) := by
 intro a0 a1 a2 a3 k
 unfold spec_l1Cur_system.f
 repeat' first
   | (with_reducible exact spec_ahFlat.mono _ _)
   | (with_reducible exact spec_ahRainbow.mono _ _)
   | (with_reducible exact spec_l1Cur_sure.mono _ _ _ _ _)
   | (with_reducible exact LeO.refl _)
   | (with_reducible exact LeO.none _)
   | (with_reducible refine LeO.ite ?_ ?_)
   | (with_reducible refine LeO.bind ?_ (fun _ => ?_))
   | exact LeO.none _
   | refine LeO.ite ?_ ?_
   | refine LeO.bind ?_ (fun _ => ?_)
theorem spec_l1Cur_system.calls (k : Nat) (g : Nat) (s0_0 : List Int) (s0_1 : Int) (s0_2 : Int) (a1 : Int) (r1 : List Int) (r2 : Int) (r3 : Int) (w0 w : World) (hI : IsS48 w0 w g s0_0 s0_1 s0_2) (hB : Below w0.heap.size w0 w) (h : spec_l1Cur_system.f k s0_0 s0_1 s0_2 a1 = some (r1, r2, r3)) :
  Calls Try.prog 52 #[.pointer (some ⟨g, 0, none⟩), .int .i64 a1] w fun e w' => ∃ v0_ : Value, e = .returned (v0_) ∧ Kd.R (Kd.int .i64) 3 w' w.heap.size (fun _ => True) v0_ r1 ∧ IsS48 w0 w' g s0_0 r2 r3 ∧ Below w0.heap.size w0 w' ∧ KeepBut w w' g none := by
 have HI0 := Aside0.mk hI
 have HK := Aside0.mk (KeepBut.refl w g none)
 have HL := Aside0.mk hB.size
 clear hI
 have HW0 := Aside0.mk hB.size
 have HB := Aside0.mk hB
 clear hB
 have H : ((spec_l1Cur_pick.f s0_0 s0_1 s0_2 (wrap64 (a1 + 1))).bind fun bt392 => ((spec_l1Cur_sure.f k s0_0 bt392.2.1 bt392.2.2 bt392.1).bind fun bt395 => ((spec_l1Cur_pick.f s0_0 bt395.2.1 bt395.2.2 16).bind fun bt400 => (if bt400.1 = 0 then (if (bt395.1.length : Int) > 0 then ((spec_l1Cur_pick.f s0_0 bt400.2.1 bt400.2.2 (bt395.1.length : Int)).bind fun bt403 => ((spec_l1Cur_pick.f s0_0 bt403.2.1 bt403.2.2 (wrap64 ((bt395.1.length : Int) + 2))).bind fun bt406 => (if 0 ≤ bt403.1 then (if bt403.1 < (bt395.1.length : Int) then (some ((bt395.1.set (bt403.1 : Int).toNat (wrap64 (bt406.1 - 1))), bt406.2.1, bt406.2.2)) else (none)) else (none)))) else (some (bt395.1, bt400.2.1, bt400.2.2))) else (if bt400.1 = 1 then (if bt395.1.length < 17592186044416 then (some ((bt395.1 ++ [wrap64 ((bt395.1.length : Int) + 1)]), bt400.2.1, bt400.2.2)) else (none)) else (if bt400.1 = 2 then ((spec_l1Cur_pick.f s0_0 bt400.2.1 bt400.2.2 2).bind fun bt413 => ((spec_ahFlat.f k (wrap64 (6 + bt413.1))).bind fun t416 => (some (t416, bt413.2.1, bt413.2.2)))) else (if bt400.1 = 3 then ((spec_l1Cur_pick.f s0_0 bt400.2.1 bt400.2.2 7).bind fun bt419 => ((spec_ahRainbow.f k bt419.1).bind fun t422 => (some (t422, bt419.2.1, bt419.2.2)))) else (some (bt395.1, bt400.2.1, bt400.2.2))))))))) = some (r1, r2, r3) := h
 clear h
 replace H := Option.bind_eq_some_iff.mp H
 obtain ⟨⟨t392, t393, t394⟩, A30, H⟩ := H
 replace H : ((spec_l1Cur_sure.f k s0_0 t393 t394 t392).bind fun bt395 => ((spec_l1Cur_pick.f s0_0 bt395.2.1 bt395.2.2 16).bind fun bt400 => (if bt400.1 = 0 then (if (bt395.1.length : Int) > 0 then ((spec_l1Cur_pick.f s0_0 bt400.2.1 bt400.2.2 (bt395.1.length : Int)).bind fun bt403 => ((spec_l1Cur_pick.f s0_0 bt403.2.1 bt403.2.2 (wrap64 ((bt395.1.length : Int) + 2))).bind fun bt406 => (if 0 ≤ bt403.1 then (if bt403.1 < (bt395.1.length : Int) then (some ((bt395.1.set (bt403.1 : Int).toNat (wrap64 (bt406.1 - 1))), bt406.2.1, bt406.2.2)) else (none)) else (none)))) else (some (bt395.1, bt400.2.1, bt400.2.2))) else (if bt400.1 = 1 then (if bt395.1.length < 17592186044416 then (some ((bt395.1 ++ [wrap64 ((bt395.1.length : Int) + 1)]), bt400.2.1, bt400.2.2)) else (none)) else (if bt400.1 = 2 then ((spec_l1Cur_pick.f s0_0 bt400.2.1 bt400.2.2 2).bind fun bt413 => ((spec_ahFlat.f k (wrap64 (6 + bt413.1))).bind fun t416 => (some (t416, bt413.2.1, bt413.2.2)))) else (if bt400.1 = 3 then ((spec_l1Cur_pick.f s0_0 bt400.2.1 bt400.2.2 7).bind fun bt419 => ((spec_ahRainbow.f k bt419.1).bind fun t422 => (some (t422, bt419.2.1, bt419.2.2)))) else (some (bt395.1, bt400.2.1, bt400.2.2)))))))) = some (r1, r2, r3) := H
 have A3 := Aside0.mk A30
 clear A30
 replace H := Option.bind_eq_some_iff.mp H
 obtain ⟨⟨t395, t398, t399⟩, A40, H⟩ := H
 replace H : ((spec_l1Cur_pick.f s0_0 t398 t399 16).bind fun bt400 => (if bt400.1 = 0 then (if (t395.length : Int) > 0 then ((spec_l1Cur_pick.f s0_0 bt400.2.1 bt400.2.2 (t395.length : Int)).bind fun bt403 => ((spec_l1Cur_pick.f s0_0 bt403.2.1 bt403.2.2 (wrap64 ((t395.length : Int) + 2))).bind fun bt406 => (if 0 ≤ bt403.1 then (if bt403.1 < (t395.length : Int) then (some ((t395.set (bt403.1 : Int).toNat (wrap64 (bt406.1 - 1))), bt406.2.1, bt406.2.2)) else (none)) else (none)))) else (some (t395, bt400.2.1, bt400.2.2))) else (if bt400.1 = 1 then (if t395.length < 17592186044416 then (some ((t395 ++ [wrap64 ((t395.length : Int) + 1)]), bt400.2.1, bt400.2.2)) else (none)) else (if bt400.1 = 2 then ((spec_l1Cur_pick.f s0_0 bt400.2.1 bt400.2.2 2).bind fun bt413 => ((spec_ahFlat.f k (wrap64 (6 + bt413.1))).bind fun t416 => (some (t416, bt413.2.1, bt413.2.2)))) else (if bt400.1 = 3 then ((spec_l1Cur_pick.f s0_0 bt400.2.1 bt400.2.2 7).bind fun bt419 => ((spec_ahRainbow.f k bt419.1).bind fun t422 => (some (t422, bt419.2.1, bt419.2.2)))) else (some (t395, bt400.2.1, bt400.2.2))))))) = some (r1, r2, r3) := H
 have A4 := Aside0.mk A40
 clear A40
 replace H := Option.bind_eq_some_iff.mp H
 obtain ⟨⟨t400, t401, t402⟩, A50, H⟩ := H
 replace H : (if t400 = 0 then (if (t395.length : Int) > 0 then ((spec_l1Cur_pick.f s0_0 t401 t402 (t395.length : Int)).bind fun bt403 => ((spec_l1Cur_pick.f s0_0 bt403.2.1 bt403.2.2 (wrap64 ((t395.length : Int) + 2))).bind fun bt406 => (if 0 ≤ bt403.1 then (if bt403.1 < (t395.length : Int) then (some ((t395.set (bt403.1 : Int).toNat (wrap64 (bt406.1 - 1))), bt406.2.1, bt406.2.2)) else (none)) else (none)))) else (some (t395, t401, t402))) else (if t400 = 1 then (if t395.length < 17592186044416 then (some ((t395 ++ [wrap64 ((t395.length : Int) + 1)]), t401, t402)) else (none)) else (if t400 = 2 then ((spec_l1Cur_pick.f s0_0 t401 t402 2).bind fun bt413 => ((spec_ahFlat.f k (wrap64 (6 + bt413.1))).bind fun t416 => (some (t416, bt413.2.1, bt413.2.2)))) else (if t400 = 3 then ((spec_l1Cur_pick.f s0_0 t401 t402 7).bind fun bt419 => ((spec_ahRainbow.f k bt419.1).bind fun t422 => (some (t422, bt419.2.1, bt419.2.2)))) else (some (t395, t401, t402)))))) = some (r1, r2, r3) := H
 have A5 := Aside0.mk A50
 clear A50
 by_cases c6 : t400 = 0
 ·rw [if_pos c6] at H
  have c6b0 : (t400 == 0) = true := beq_iff_eq.mpr c6
  have c6b1 : (t400 != 0) = false := bne_eq_false_iff_eq.mpr c6
  clear c6
  by_cases c7 : (t395.length : Int) > 0
  ·rw [if_pos c7] at H
   have c7b0 : decide (0 < (t395.length : Int)) = true := decide_eq_true c7
   have c7b1 : decide (0 < t395.length) = true := decide_eq_true (by omega)
   clear c7
   replace H := Option.bind_eq_some_iff.mp H
   obtain ⟨⟨t403, t404, t405⟩, A80, H⟩ := H
   replace H : ((spec_l1Cur_pick.f s0_0 t404 t405 (wrap64 ((t395.length : Int) + 2))).bind fun bt406 => (if 0 ≤ t403 then (if t403 < (t395.length : Int) then (some ((t395.set (t403 : Int).toNat (wrap64 (bt406.1 - 1))), bt406.2.1, bt406.2.2)) else (none)) else (none))) = some (r1, r2, r3) := H
   have A8 := Aside0.mk A80
   clear A80
   replace H := Option.bind_eq_some_iff.mp H
   obtain ⟨⟨t406, t407, t408⟩, A90, H⟩ := H
   replace H : (if 0 ≤ t403 then (if t403 < (t395.length : Int) then (some ((t395.set (t403 : Int).toNat (wrap64 (t406 - 1))), t407, t408)) else (none)) else (none)) = some (r1, r2, r3) := H
   have A9 := Aside0.mk A90
   clear A90
   by_cases c10 : 0 ≤ t403
   ·rw [if_pos c10] at H
    have c10b0 : decide (0 ≤ t403) = true := decide_eq_true c10
    clear c10
    by_cases c11 : t403 < (t395.length : Int)
    ·rw [if_pos c11] at H
     have c11b0 : decide (t403 < (t395.length : Int)) = true := decide_eq_true c11
     clear c11
     obtain ⟨y409, hy409⟩ : ∃ y_ : List Int, y_ = (t395.set (t403 : Int).toNat (wrap64 (t406 - 1))) := ⟨_, rfl⟩
     replace H : (some (y409, t407, t408)) = some (r1, r2, r3) := by first | (rw [hy409]; with_reducible exact H) | (have H2_ := (Option.bind_some _ _).symm.trans H; rw [hy409]; with_reducible exact H2_) | (have H2_ := (Option.bind_some _ _).symm.trans H; with_reducible exact H2_) | with_reducible exact H | (rw [hy409]; exact H) | exact H
     have Ny409 := Aside0.mk hy409
     clear hy409
     simp only [Option.some.injEq, Prod.mk.injEq] at H
     obtain ⟨rfl, rfl, rfl⟩ := H
     go_enter Try.func52, Try.ntmps52
     go_wp2_with (first | ((with_reducible refine gate_callee (f := 29) rfl ?_); refine goesL_ (some 10) rfl rfl Try.func29 (by kernel_rfl) rfl #[.pointer (some ⟨g, 0, none⟩), .int .i64 (wrap64 (a1 + 1))] rfl (by (try simp only [List.map_toArray, List.map_cons, List.map_nil]); first | done | rfl) ?_; (with_reducible refine (spec_l1Cur_pick.calls g s0_0 s0_1 s0_2 (wrap64 (a1 + 1)) t392 t393 t394 w0 _ ?side1 ?side2 A3.out).mono ?_); (case side1 => repeat (first | exact HI0.out | apply iA | apply iN | apply iD | apply i1 | apply i2)); (case side2 => repeat (first | exact HB.out | apply bA | apply bN | apply bD | refine below_set ?_ (iG HI0.out))); rintro e w13 ⟨rfl, hi, hb, hk⟩; refine ⟨_, rfl, ?_⟩; replace HK := Aside0.mk (KeepBut.trans (by repeat (first | exact HK.out | apply kS | apply kN | apply kD | apply kA)) hk (.inl rfl)); replace HB := Aside0.mk (hb); replace HI0 := Aside0.mk (hi); (try clear hb2); (try clear hb hk hi)) | ((with_reducible refine gate_callee (f := 38) rfl ?_); refine goesL_ (some 11) rfl rfl Try.func38 (by kernel_rfl) rfl #[.pointer (some ⟨g, 0, none⟩), .int .i64 t392] rfl (by (try simp only [List.map_toArray, List.map_cons, List.map_nil]); first | done | rfl) ?_; (with_reducible refine (spec_l1Cur_sure.calls k g s0_0 t393 t394 t392 t395 t398 t399 w0 _ ?side1 ?side2 A4.out).mono ?_); (case side1 => repeat (first | exact HI0.out | apply iA | apply iN | apply iD | apply i1 | apply i2)); (case side2 => repeat (first | exact HB.out | apply bA | apply bN | apply bD | refine below_set ?_ (iG HI0.out))); rintro e w14 ⟨v396, rfl, ho0, hi, hb, hk⟩; refine ⟨_, rfl, ?_⟩; have HO397 := Aside0.mk (Kd.R_lower ho0 (keep_size (w := w) (g := g) (row := none) (by repeat (first | exact HK.out | apply kS | apply kN | apply kD | apply kA)))); replace HK := Aside0.mk (KeepBut.trans (by repeat (first | exact HK.out | apply kS | apply kN | apply kD | apply kA)) hk (.inl rfl)); replace HB := Aside0.mk (hb); replace HI0 := Aside0.mk (hi); (try clear hb2); (try clear hb hk hi); (try clear ho0)) | ((with_reducible refine gate_callee (f := 29) rfl ?_); refine goesL_ (some 13) rfl rfl Try.func29 (by kernel_rfl) rfl #[.pointer (some ⟨g, 0, none⟩), .int .i64 16] rfl (by (try simp only [List.map_toArray, List.map_cons, List.map_nil]); first | done | rfl) ?_; (with_reducible refine (spec_l1Cur_pick.calls g s0_0 t398 t399 16 t400 t401 t402 w0 _ ?side1 ?side2 A5.out).mono ?_); (case side1 => repeat (first | exact HI0.out | apply iA | apply iN | apply iD | apply i1 | apply i2)); (case side2 => repeat (first | exact HB.out | apply bA | apply bN | apply bD | refine below_set ?_ (iG HI0.out))); rintro e w15 ⟨rfl, hi, hb, hk⟩; refine ⟨_, rfl, ?_⟩; replace HO397 := Aside0.mk (Kd.R_mono (Kd.R_keep (IsS48.apart (show IsS48 w0 _ g s0_0 t398 t399 from by repeat (first | exact HI0.out | apply iA | apply iN | apply iD | apply i1 | apply i2)) (by (with_reducible repeat (first | apply rA | apply rN | apply rD)); exact HO397.out) (by decide)) hk (fun _ h => h.2)) (fun _ h => h.1)); replace HK := Aside0.mk (KeepBut.trans (by repeat (first | exact HK.out | apply kS | apply kN | apply kD | apply kA)) hk (.inl rfl)); replace HB := Aside0.mk (hb); replace HI0 := Aside0.mk (hi); (try clear hb2); (try clear hb hk hi); obtain ⟨Ao16, co16, eo16⟩ := Kd.R_slice HO397.out; subst eo16) | ((with_reducible refine gate_callee (f := 29) rfl ?_); refine goesL_ (some 23) rfl rfl Try.func29 (by kernel_rfl) rfl #[.pointer (some ⟨g, 0, none⟩), .int .i64 (t395.length : Int)] rfl (by (try simp only [List.map_toArray, List.map_cons, List.map_nil]); first | done | rfl) ?_; (with_reducible refine (spec_l1Cur_pick.calls g s0_0 t401 t402 (t395.length : Int) t403 t404 t405 w0 _ ?side1 ?side2 A8.out).mono ?_); (case side1 => repeat (first | exact HI0.out | apply iA | apply iN | apply iD | apply i1 | apply i2)); (case side2 => repeat (first | exact HB.out | apply bA | apply bN | apply bD | refine below_set ?_ (iG HI0.out))); rintro e w17 ⟨rfl, hi, hb, hk⟩; refine ⟨_, rfl, ?_⟩; replace HO397 := Aside0.mk (Kd.R_mono (Kd.R_keep (IsS48.apart (show IsS48 w0 _ g s0_0 t401 t402 from by repeat (first | exact HI0.out | apply iA | apply iN | apply iD | apply i1 | apply i2)) (by (with_reducible repeat (first | apply rA | apply rN | apply rD)); exact HO397.out) (by decide)) hk (fun _ h => h.2)) (fun _ h => h.1)); replace HK := Aside0.mk (KeepBut.trans (by repeat (first | exact HK.out | apply kS | apply kN | apply kD | apply kA)) hk (.inl rfl)); replace HB := Aside0.mk (hb); replace HI0 := Aside0.mk (hi); (try clear hb2); (try clear hb hk hi)) | ((with_reducible refine gate_callee (f := 29) rfl ?_); refine goesL_ (some 28) rfl rfl Try.func29 (by kernel_rfl) rfl #[.pointer (some ⟨g, 0, none⟩), .int .i64 (wrap64 ((t395.length : Int) + 2))] rfl (by (try simp only [List.map_toArray, List.map_cons, List.map_nil]); first | done | rfl) ?_; (with_reducible refine (spec_l1Cur_pick.calls g s0_0 t404 t405 (wrap64 ((t395.length : Int) + 2)) t406 t407 t408 w0 _ ?side1 ?side2 A9.out).mono ?_); (case side1 => repeat (first | exact HI0.out | apply iA | apply iN | apply iD | apply i1 | apply i2)); (case side2 => repeat (first | exact HB.out | apply bA | apply bN | apply bD | refine below_set ?_ (iG HI0.out))); rintro e w18 ⟨rfl, hi, hb, hk⟩; refine ⟨_, rfl, ?_⟩; replace HO397 := Aside0.mk (Kd.R_mono (Kd.R_keep (IsS48.apart (show IsS48 w0 _ g s0_0 t404 t405 from by repeat (first | exact HI0.out | apply iA | apply iN | apply iD | apply i1 | apply i2)) (by (with_reducible repeat (first | apply rA | apply rN | apply rD)); exact HO397.out) (by decide)) hk (fun _ h => h.2)) (fun _ h => h.1)); replace HK := Aside0.mk (KeepBut.trans (by repeat (first | exact HK.out | apply kS | apply kN | apply kD | apply kA)) hk (.inl rfl)); replace HB := Aside0.mk (hb); replace HI0 := Aside0.mk (hi); (try clear hb2); (try clear hb hk hi); have p12 : 0 ≤ (t403 : Int) := of_decide_eq_true (by assumption); have q12 : (t403 : Int) < ((t395.length : Int) : Int) := of_decide_eq_true (by assumption); obtain ⟨go12, co12, eo12, gb12, gl12, cl12, HG12⟩ := Kd.R_form HO397.out (by omega); (first | cases eo12 | (injection eo12 with ea_ en_ ec_; (first | subst ea_ | (injection ea_ with ea_; subst ea_)); subst ec_; clear en_)); have GB12 := Aside0.mk gb12; have GG12 := Aside0.mk HG12; clear gb12 gl12 HG12; obtain ⟨hx12_0, hf12_0⟩ := Kd.R_celln 0 HO397.out (t403 : Int) p12 q12; replace p12 := eq_true p12; replace q12 := eq_true q12; obtain ⟨hy19_, hz19_⟩ := Kd.R_celln 0 HO397.out (t403 : Int) (of_decide_eq_true (by assumption)) (of_decide_eq_true (by assumption)); have HP19 := Kd.R_putg HO397.out (t403 : Int) (wrap64 (t406 - 1))) | ((with_reducible refine gate_store (t := 3) (p := 30) rfl ?_); refine store_event (t := 3) (p := 30) (v := ?vo_w20) (w1 := (w18.setCell ⟨go12, (t403 : Int).toNat, none⟩ (.int .i64 (wrap64 (t406 - 1))))) ?hg ?ho ?hn ?hr ?_; (case ho => rfl); (case hg => rfl); (case hn => rfl); (case hr => first | (go_simp; done) | (go_simp; rfl)); intro w20 hw; have hg : w18.grownBy w20 (some go12) := (by rw [hw]; exact HP19.2); have hp_ : Kd.R (Kd.int .i64) 3 w20 w.heap.size (fun _ => True) (.slice (some ⟨go12, 0, none⟩) t395.length co16) y409 := (by rw [hw, Ny409.out]; exact HP19.1); clear HP19; replace HI0 := Aside0.mk (IsS48.grown (by repeat (first | exact HI0.out | apply iA | apply iN | apply iD | apply i1 | apply i2)) hg (IsS48.own_ne HI0.out HO397.out (by decide))); replace HB := Aside0.mk ((by rw [hw]; exact below_set (HB.out) (Nat.le_trans HL.out GB12.out) : Below w0.heap.size w0 w20)); replace HK := Aside0.mk (KeepBut.trans (by repeat (first | exact HK.out | apply kS | apply kN | apply kD | apply kA)) (KeepBut.of_grown hg g) (Kd.R_base2 HO397.out)); replace HO397 := Aside0.mk (hp_); clear hg hw hp_))
     go_ret
     exact ⟨_, by first | rfl | (simp [*, errW_none, errW_some] <;> rfl), by (with_reducible repeat (first | apply rA | apply rN | apply rD)); exact HO397.out, by repeat (first | exact HI0.out | apply iA | apply iN | apply iD | apply i1 | apply i2), by repeat (first | exact HB.out | apply bA | apply bN | apply bD | refine below_set ?_ (iG HI0.out)), by repeat (first | exact HK.out | apply kS | apply kN | apply kD | apply kA)⟩
    ·rw [if_neg c11] at H
     exact absurd H (by simp)
   ·rw [if_neg c10] at H
    exact absurd H (by simp)
  ·rw [if_neg c7] at H
   have c7b0 : decide (0 < (t395.length : Int)) = false := decide_eq_false c7
   have c7b1 : decide (0 < t395.length) = false := decide_eq_false (by omega)
   clear c7
   simp only [Option.some.injEq, Prod.mk.injEq] at H
   obtain ⟨rfl, rfl, rfl⟩ := H
   go_enter Try.func52, Try.ntmps52
   go_wp2_with (first | ((with_reducible refine gate_callee (f := 29) rfl ?_); refine goesL_ (some 10) rfl rfl Try.func29 (by kernel_rfl) rfl #[.pointer (some ⟨g, 0, none⟩), .int .i64 (wrap64 (a1 + 1))] rfl (by (try simp only [List.map_toArray, List.map_cons, List.map_nil]); first | done | rfl) ?_; (with_reducible refine (spec_l1Cur_pick.calls g s0_0 s0_1 s0_2 (wrap64 (a1 + 1)) t392 t393 t394 w0 _ ?side1 ?side2 A3.out).mono ?_); (case side1 => repeat (first | exact HI0.out | apply iA | apply iN | apply iD | apply i1 | apply i2)); (case side2 => repeat (first | exact HB.out | apply bA | apply bN | apply bD | refine below_set ?_ (iG HI0.out))); rintro e w21 ⟨rfl, hi, hb, hk⟩; refine ⟨_, rfl, ?_⟩; replace HK := Aside0.mk (KeepBut.trans (by repeat (first | exact HK.out | apply kS | apply kN | apply kD | apply kA)) hk (.inl rfl)); replace HB := Aside0.mk (hb); replace HI0 := Aside0.mk (hi); (try clear hb2); (try clear hb hk hi)) | ((with_reducible refine gate_callee (f := 38) rfl ?_); refine goesL_ (some 11) rfl rfl Try.func38 (by kernel_rfl) rfl #[.pointer (some ⟨g, 0, none⟩), .int .i64 t392] rfl (by (try simp only [List.map_toArray, List.map_cons, List.map_nil]); first | done | rfl) ?_; (with_reducible refine (spec_l1Cur_sure.calls k g s0_0 t393 t394 t392 t395 t398 t399 w0 _ ?side1 ?side2 A4.out).mono ?_); (case side1 => repeat (first | exact HI0.out | apply iA | apply iN | apply iD | apply i1 | apply i2)); (case side2 => repeat (first | exact HB.out | apply bA | apply bN | apply bD | refine below_set ?_ (iG HI0.out))); rintro e w22 ⟨v396, rfl, ho0, hi, hb, hk⟩; refine ⟨_, rfl, ?_⟩; have HO397 := Aside0.mk (Kd.R_lower ho0 (keep_size (w := w) (g := g) (row := none) (by repeat (first | exact HK.out | apply kS | apply kN | apply kD | apply kA)))); replace HK := Aside0.mk (KeepBut.trans (by repeat (first | exact HK.out | apply kS | apply kN | apply kD | apply kA)) hk (.inl rfl)); replace HB := Aside0.mk (hb); replace HI0 := Aside0.mk (hi); (try clear hb2); (try clear hb hk hi); (try clear ho0)) | ((with_reducible refine gate_callee (f := 29) rfl ?_); refine goesL_ (some 13) rfl rfl Try.func29 (by kernel_rfl) rfl #[.pointer (some ⟨g, 0, none⟩), .int .i64 16] rfl (by (try simp only [List.map_toArray, List.map_cons, List.map_nil]); first | done | rfl) ?_; (with_reducible refine (spec_l1Cur_pick.calls g s0_0 t398 t399 16 t400 t401 t402 w0 _ ?side1 ?side2 A5.out).mono ?_); (case side1 => repeat (first | exact HI0.out | apply iA | apply iN | apply iD | apply i1 | apply i2)); (case side2 => repeat (first | exact HB.out | apply bA | apply bN | apply bD | refine below_set ?_ (iG HI0.out))); rintro e w23 ⟨rfl, hi, hb, hk⟩; refine ⟨_, rfl, ?_⟩; replace HO397 := Aside0.mk (Kd.R_mono (Kd.R_keep (IsS48.apart (show IsS48 w0 _ g s0_0 t398 t399 from by repeat (first | exact HI0.out | apply iA | apply iN | apply iD | apply i1 | apply i2)) (by (with_reducible repeat (first | apply rA | apply rN | apply rD)); exact HO397.out) (by decide)) hk (fun _ h => h.2)) (fun _ h => h.1)); replace HK := Aside0.mk (KeepBut.trans (by repeat (first | exact HK.out | apply kS | apply kN | apply kD | apply kA)) hk (.inl rfl)); replace HB := Aside0.mk (hb); replace HI0 := Aside0.mk (hi); (try clear hb2); (try clear hb hk hi); obtain ⟨Ao24, co24, eo24⟩ := Kd.R_slice HO397.out; subst eo24))
   go_ret
   exact ⟨_, by first | rfl | (simp [*, errW_none, errW_some] <;> rfl), by (with_reducible repeat (first | apply rA | apply rN | apply rD)); exact HO397.out, by repeat (first | exact HI0.out | apply iA | apply iN | apply iD | apply i1 | apply i2), by repeat (first | exact HB.out | apply bA | apply bN | apply bD | refine below_set ?_ (iG HI0.out)), by repeat (first | exact HK.out | apply kS | apply kN | apply kD | apply kA)⟩
 ·rw [if_neg c6] at H
  have c6b0 : (t400 == 0) = false := beq_eq_false_iff_ne.mpr c6
  have c6b1 : (t400 != 0) = true := bne_iff_ne.mpr c6
  by_cases c25 : t400 = 1
  ·rw [if_pos c25] at H
   have c25b0 : (t400 == 1) = true := beq_iff_eq.mpr c25
   have c25b1 : (t400 != 1) = false := bne_eq_false_iff_eq.mpr c25
   clear c25
   by_cases c26 : t395.length < 17592186044416
   ·rw [if_pos c26] at H
    have LMc26 := Aside0.mk c26
    clear c26
    obtain ⟨y410, hy410⟩ : ∃ y_ : List Int, y_ = (t395 ++ [wrap64 ((t395.length : Int) + 1)]) := ⟨_, rfl⟩
    replace H : (some (y410, t401, t402)) = some (r1, r2, r3) := by first | (rw [hy410]; with_reducible exact H) | (have H2_ := (Option.bind_some _ _).symm.trans H; rw [hy410]; with_reducible exact H2_) | (have H2_ := (Option.bind_some _ _).symm.trans H; with_reducible exact H2_) | with_reducible exact H | (rw [hy410]; exact H) | exact H
    have Ny410 := Aside0.mk hy410
    clear hy410
    simp only [Option.some.injEq, Prod.mk.injEq] at H
    obtain ⟨rfl, rfl, rfl⟩ := H
    go_enter Try.func52, Try.ntmps52
    go_wp2_with (first | ((with_reducible refine gate_callee (f := 29) rfl ?_); refine goesL_ (some 10) rfl rfl Try.func29 (by kernel_rfl) rfl #[.pointer (some ⟨g, 0, none⟩), .int .i64 (wrap64 (a1 + 1))] rfl (by (try simp only [List.map_toArray, List.map_cons, List.map_nil]); first | done | rfl) ?_; (with_reducible refine (spec_l1Cur_pick.calls g s0_0 s0_1 s0_2 (wrap64 (a1 + 1)) t392 t393 t394 w0 _ ?side1 ?side2 A3.out).mono ?_); (case side1 => repeat (first | exact HI0.out | apply iA | apply iN | apply iD | apply i1 | apply i2)); (case side2 => repeat (first | exact HB.out | apply bA | apply bN | apply bD | refine below_set ?_ (iG HI0.out))); rintro e w27 ⟨rfl, hi, hb, hk⟩; refine ⟨_, rfl, ?_⟩; replace HK := Aside0.mk (KeepBut.trans (by repeat (first | exact HK.out | apply kS | apply kN | apply kD | apply kA)) hk (.inl rfl)); replace HB := Aside0.mk (hb); replace HI0 := Aside0.mk (hi); (try clear hb2); (try clear hb hk hi)) | ((with_reducible refine gate_callee (f := 38) rfl ?_); refine goesL_ (some 11) rfl rfl Try.func38 (by kernel_rfl) rfl #[.pointer (some ⟨g, 0, none⟩), .int .i64 t392] rfl (by (try simp only [List.map_toArray, List.map_cons, List.map_nil]); first | done | rfl) ?_; (with_reducible refine (spec_l1Cur_sure.calls k g s0_0 t393 t394 t392 t395 t398 t399 w0 _ ?side1 ?side2 A4.out).mono ?_); (case side1 => repeat (first | exact HI0.out | apply iA | apply iN | apply iD | apply i1 | apply i2)); (case side2 => repeat (first | exact HB.out | apply bA | apply bN | apply bD | refine below_set ?_ (iG HI0.out))); rintro e w28 ⟨v396, rfl, ho0, hi, hb, hk⟩; refine ⟨_, rfl, ?_⟩; have HO397 := Aside0.mk (Kd.R_lower ho0 (keep_size (w := w) (g := g) (row := none) (by repeat (first | exact HK.out | apply kS | apply kN | apply kD | apply kA)))); replace HK := Aside0.mk (KeepBut.trans (by repeat (first | exact HK.out | apply kS | apply kN | apply kD | apply kA)) hk (.inl rfl)); replace HB := Aside0.mk (hb); replace HI0 := Aside0.mk (hi); (try clear hb2); (try clear hb hk hi); (try clear ho0)) | ((with_reducible refine gate_callee (f := 29) rfl ?_); refine goesL_ (some 13) rfl rfl Try.func29 (by kernel_rfl) rfl #[.pointer (some ⟨g, 0, none⟩), .int .i64 16] rfl (by (try simp only [List.map_toArray, List.map_cons, List.map_nil]); first | done | rfl) ?_; (with_reducible refine (spec_l1Cur_pick.calls g s0_0 t398 t399 16 t400 t401 t402 w0 _ ?side1 ?side2 A5.out).mono ?_); (case side1 => repeat (first | exact HI0.out | apply iA | apply iN | apply iD | apply i1 | apply i2)); (case side2 => repeat (first | exact HB.out | apply bA | apply bN | apply bD | refine below_set ?_ (iG HI0.out))); rintro e w29 ⟨rfl, hi, hb, hk⟩; refine ⟨_, rfl, ?_⟩; replace HO397 := Aside0.mk (Kd.R_mono (Kd.R_keep (IsS48.apart (show IsS48 w0 _ g s0_0 t398 t399 from by repeat (first | exact HI0.out | apply iA | apply iN | apply iD | apply i1 | apply i2)) (by (with_reducible repeat (first | apply rA | apply rN | apply rD)); exact HO397.out) (by decide)) hk (fun _ h => h.2)) (fun _ h => h.1)); replace HK := Aside0.mk (KeepBut.trans (by repeat (first | exact HK.out | apply kS | apply kN | apply kD | apply kA)) hk (.inl rfl)); replace HB := Aside0.mk (hb); replace HI0 := Aside0.mk (hi); (try clear hb2); (try clear hb hk hi); obtain ⟨Ao30, co30, eo30⟩ := Kd.R_slice HO397.out; subst eo30) | ((with_reducible refine gate_builtin (b := .append) (xs := #[.tmp 33, .tmp 37]) rfl ?_); at_builtin; refine Kd.R_append (Kd.int .i64) w.heap.size rfl (.tmp 33) (.tmp 37) 26 3 (.int .i64 0) 8 rfl Try.underlying26 info3 rfl (by decide) (by omega) (.slice Ao30 t395.length co30) t395 (wrap64 ((t395.length : Int) + 1)) [.int .i64 (wrap64 ((t395.length : Int) + 1))] (fun _ => True) (fun _ => False) rfl rfl ?aP (fun _ hk => hk.elim) ?aF ?aO (Below.refl _ _) ?aS ?aL ?_; (case aP => exact rfl); (case aF => exact (fun _ _ => trivial)); (case aO => exact (by (with_reducible repeat (first | apply rA | apply rN | apply rD)); exact HO397.out)); (case aS => exact (keep_size (w := w) (g := g) (row := none) (by repeat (first | exact HK.out | apply kS | apply kN | apply kD | apply kA)))); (case aL => have := LMc26.out; omega); intro v411 w31 ho hb hg hat; rw [← Ny410.out] at ho; replace HB := Aside0.mk (below_weaken (by repeat (first | exact HB.out | apply bA | apply bN | apply bD | refine below_set ?_ (iG HI0.out))) HL.out hb); replace HI0 := Aside0.mk (IsS48.grown (by repeat (first | exact HI0.out | apply iA | apply iN | apply iD | apply i1 | apply i2)) hg (IsS48.own_ne HI0.out HO397.out (by decide))); replace HK := Aside0.mk (KeepBut.trans (by repeat (first | exact HK.out | apply kS | apply kN | apply kD | apply kA)) (KeepBut.of_grown hg g) (Kd.R_base2 HO397.out)); have HO412 := Aside0.mk (ho); clear HO397; clear ho hb hg hat))
    go_ret
    exact ⟨_, by first | rfl | (simp [*, errW_none, errW_some] <;> rfl), by (with_reducible repeat (first | apply rA | apply rN | apply rD)); exact HO412.out, by repeat (first | exact HI0.out | apply iA | apply iN | apply iD | apply i1 | apply i2), by repeat (first | exact HB.out | apply bA | apply bN | apply bD | refine below_set ?_ (iG HI0.out)), by repeat (first | exact HK.out | apply kS | apply kN | apply kD | apply kA)⟩
   ·rw [if_neg c26] at H
    exact absurd H (by simp)
  ·rw [if_neg c25] at H
   have c25b0 : (t400 == 1) = false := beq_eq_false_iff_ne.mpr c25
   have c25b1 : (t400 != 1) = true := bne_iff_ne.mpr c25
   by_cases c32 : t400 = 2
   ·rw [if_pos c32] at H
    have c32b0 : (t400 == 2) = true := beq_iff_eq.mpr c32
    have c32b1 : (t400 != 2) = false := bne_eq_false_iff_eq.mpr c32
    clear c32
    replace H := Option.bind_eq_some_iff.mp H
    obtain ⟨⟨t413, t414, t415⟩, A330, H⟩ := H
    replace H : ((spec_ahFlat.f k (wrap64 (6 + t413))).bind fun t416 => (some (t416, t414, t415))) = some (r1, r2, r3) := H
    have A33 := Aside0.mk A330
    clear A330
    replace H := Option.bind_eq_some_iff.mp H
    obtain ⟨t416, A340, H⟩ := H
    replace H : (some (t416, t414, t415)) = some (r1, r2, r3) := H
    have A34 := Aside0.mk A340
    clear A340
    simp only [Option.some.injEq, Prod.mk.injEq] at H
    obtain ⟨rfl, rfl, rfl⟩ := H
    go_enter Try.func52, Try.ntmps52
    go_wp2_with (first | ((with_reducible refine gate_callee (f := 29) rfl ?_); refine goesL_ (some 10) rfl rfl Try.func29 (by kernel_rfl) rfl #[.pointer (some ⟨g, 0, none⟩), .int .i64 (wrap64 (a1 + 1))] rfl (by (try simp only [List.map_toArray, List.map_cons, List.map_nil]); first | done | rfl) ?_; (with_reducible refine (spec_l1Cur_pick.calls g s0_0 s0_1 s0_2 (wrap64 (a1 + 1)) t392 t393 t394 w0 _ ?side1 ?side2 A3.out).mono ?_); (case side1 => repeat (first | exact HI0.out | apply iA | apply iN | apply iD | apply i1 | apply i2)); (case side2 => repeat (first | exact HB.out | apply bA | apply bN | apply bD | refine below_set ?_ (iG HI0.out))); rintro e w35 ⟨rfl, hi, hb, hk⟩; refine ⟨_, rfl, ?_⟩; replace HK := Aside0.mk (KeepBut.trans (by repeat (first | exact HK.out | apply kS | apply kN | apply kD | apply kA)) hk (.inl rfl)); replace HB := Aside0.mk (hb); replace HI0 := Aside0.mk (hi); (try clear hb2); (try clear hb hk hi)) | ((with_reducible refine gate_callee (f := 38) rfl ?_); refine goesL_ (some 11) rfl rfl Try.func38 (by kernel_rfl) rfl #[.pointer (some ⟨g, 0, none⟩), .int .i64 t392] rfl (by (try simp only [List.map_toArray, List.map_cons, List.map_nil]); first | done | rfl) ?_; (with_reducible refine (spec_l1Cur_sure.calls k g s0_0 t393 t394 t392 t395 t398 t399 w0 _ ?side1 ?side2 A4.out).mono ?_); (case side1 => repeat (first | exact HI0.out | apply iA | apply iN | apply iD | apply i1 | apply i2)); (case side2 => repeat (first | exact HB.out | apply bA | apply bN | apply bD | refine below_set ?_ (iG HI0.out))); rintro e w36 ⟨v396, rfl, ho0, hi, hb, hk⟩; refine ⟨_, rfl, ?_⟩; have HO397 := Aside0.mk (Kd.R_lower ho0 (keep_size (w := w) (g := g) (row := none) (by repeat (first | exact HK.out | apply kS | apply kN | apply kD | apply kA)))); replace HK := Aside0.mk (KeepBut.trans (by repeat (first | exact HK.out | apply kS | apply kN | apply kD | apply kA)) hk (.inl rfl)); replace HB := Aside0.mk (hb); replace HI0 := Aside0.mk (hi); (try clear hb2); (try clear hb hk hi); (try clear ho0)) | ((with_reducible refine gate_callee (f := 29) rfl ?_); refine goesL_ (some 13) rfl rfl Try.func29 (by kernel_rfl) rfl #[.pointer (some ⟨g, 0, none⟩), .int .i64 16] rfl (by (try simp only [List.map_toArray, List.map_cons, List.map_nil]); first | done | rfl) ?_; (with_reducible refine (spec_l1Cur_pick.calls g s0_0 t398 t399 16 t400 t401 t402 w0 _ ?side1 ?side2 A5.out).mono ?_); (case side1 => repeat (first | exact HI0.out | apply iA | apply iN | apply iD | apply i1 | apply i2)); (case side2 => repeat (first | exact HB.out | apply bA | apply bN | apply bD | refine below_set ?_ (iG HI0.out))); rintro e w37 ⟨rfl, hi, hb, hk⟩; refine ⟨_, rfl, ?_⟩; replace HO397 := Aside0.mk (Kd.R_mono (Kd.R_keep (IsS48.apart (show IsS48 w0 _ g s0_0 t398 t399 from by repeat (first | exact HI0.out | apply iA | apply iN | apply iD | apply i1 | apply i2)) (by (with_reducible repeat (first | apply rA | apply rN | apply rD)); exact HO397.out) (by decide)) hk (fun _ h => h.2)) (fun _ h => h.1)); replace HK := Aside0.mk (KeepBut.trans (by repeat (first | exact HK.out | apply kS | apply kN | apply kD | apply kA)) hk (.inl rfl)); replace HB := Aside0.mk (hb); replace HI0 := Aside0.mk (hi); (try clear hb2); (try clear hb hk hi)) | ((with_reducible refine gate_callee (f := 29) rfl ?_); refine goesL_ (some 42) rfl rfl Try.func29 (by kernel_rfl) rfl #[.pointer (some ⟨g, 0, none⟩), .int .i64 2] rfl (by (try simp only [List.map_toArray, List.map_cons, List.map_nil]); first | done | rfl) ?_; (with_reducible refine (spec_l1Cur_pick.calls g s0_0 t401 t402 2 t413 t414 t415 w0 _ ?side1 ?side2 A33.out).mono ?_); (case side1 => repeat (first | exact HI0.out | apply iA | apply iN | apply iD | apply i1 | apply i2)); (case side2 => repeat (first | exact HB.out | apply bA | apply bN | apply bD | refine below_set ?_ (iG HI0.out))); rintro e w38 ⟨rfl, hi, hb, hk⟩; refine ⟨_, rfl, ?_⟩; replace HO397 := Aside0.mk (Kd.R_mono (Kd.R_keep (IsS48.apart (show IsS48 w0 _ g s0_0 t401 t402 from by repeat (first | exact HI0.out | apply iA | apply iN | apply iD | apply i1 | apply i2)) (by (with_reducible repeat (first | apply rA | apply rN | apply rD)); exact HO397.out) (by decide)) hk (fun _ h => h.2)) (fun _ h => h.1)); replace HK := Aside0.mk (KeepBut.trans (by repeat (first | exact HK.out | apply kS | apply kN | apply kD | apply kA)) hk (.inl rfl)); replace HB := Aside0.mk (hb); replace HI0 := Aside0.mk (hi); (try clear hb2); (try clear hb hk hi)) | ((with_reducible refine gate_callee (f := 60) rfl ?_); refine goesL_ (some 44) rfl rfl Try.func60 (by kernel_rfl) rfl #[.int .i64 (wrap64 (6 + t413))] rfl (by (try simp only [List.map_toArray, List.map_cons, List.map_nil]); first | done | rfl) ?_; (with_reducible refine (spec_ahFlat.calls k (wrap64 (6 + t413)) t416 _ A34.out).mono ?_); rintro e w39 ⟨v417, rfl, ho0, hb⟩; refine ⟨_, rfl, ?_⟩; have HO418 := Aside0.mk (Kd.R_lower (Kd.R_new' ho0 (Kd.R_lt (by (with_reducible repeat (first | apply rA | apply rN | apply rD)); exact HO397.out))) (keep_size (w := w) (g := g) (row := none) (by repeat (first | exact HK.out | apply kS | apply kN | apply kD | apply kA)))); replace HO397 := Aside0.mk (Kd.R_elder' (by (with_reducible repeat (first | apply rA | apply rN | apply rD)); exact HO397.out) (Kd.R_base ho0) hb); replace HK := Aside0.mk (KeepBut.trans (by repeat (first | exact HK.out | apply kS | apply kN | apply kD | apply kA)) (KeepBut.of_below hb g none) (.inl rfl)); replace HB := Aside0.mk (below_step (by repeat (first | exact HB.out | apply bA | apply bN | apply bD | refine below_set ?_ (iG HI0.out))) hb); replace HI0 := Aside0.mk (IsS48.below (by repeat (first | exact HI0.out | apply iA | apply iN | apply iD | apply i1 | apply i2)) hb); (try clear hb2); (try clear hb hk hi); (try clear ho0)))
    go_ret
    exact ⟨_, by first | rfl | (simp [*, errW_none, errW_some] <;> rfl), by (with_reducible repeat (first | apply rA | apply rN | apply rD)); exact Kd.R_mono HO418.out (fun _ hk => trivial), by repeat (first | exact HI0.out | apply iA | apply iN | apply iD | apply i1 | apply i2), by repeat (first | exact HB.out | apply bA | apply bN | apply bD | refine below_set ?_ (iG HI0.out)), by repeat (first | exact HK.out | apply kS | apply kN | apply kD | apply kA)⟩
   ·rw [if_neg c32] at H
    have c32b0 : (t400 == 2) = false := beq_eq_false_iff_ne.mpr c32
    have c32b1 : (t400 != 2) = true := bne_iff_ne.mpr c32
    by_cases c40 : t400 = 3
    ·rw [if_pos c40] at H
     have c40b0 : (t400 == 3) = true := beq_iff_eq.mpr c40
     have c40b1 : (t400 != 3) = false := bne_eq_false_iff_eq.mpr c40
     clear c40
     replace H := Option.bind_eq_some_iff.mp H
     obtain ⟨⟨t419, t420, t421⟩, A410, H⟩ := H
     replace H : ((spec_ahRainbow.f k t419).bind fun t422 => (some (t422, t420, t421))) = some (r1, r2, r3) := H
     have A41 := Aside0.mk A410
     clear A410
     replace H := Option.bind_eq_some_iff.mp H
     obtain ⟨t422, A420, H⟩ := H
     replace H : (some (t422, t420, t421)) = some (r1, r2, r3) := H
     have A42 := Aside0.mk A420
     clear A420
     simp only [Option.some.injEq, Prod.mk.injEq] at H
     obtain ⟨rfl, rfl, rfl⟩ := H
     go_enter Try.func52, Try.ntmps52
     go_wp2_with (first | ((with_reducible refine gate_callee (f := 29) rfl ?_); refine goesL_ (some 10) rfl rfl Try.func29 (by kernel_rfl) rfl #[.pointer (some ⟨g, 0, none⟩), .int .i64 (wrap64 (a1 + 1))] rfl (by (try simp only [List.map_toArray, List.map_cons, List.map_nil]); first | done | rfl) ?_; (with_reducible refine (spec_l1Cur_pick.calls g s0_0 s0_1 s0_2 (wrap64 (a1 + 1)) t392 t393 t394 w0 _ ?side1 ?side2 A3.out).mono ?_); (case side1 => repeat (first | exact HI0.out | apply iA | apply iN | apply iD | apply i1 | apply i2)); (case side2 => repeat (first | exact HB.out | apply bA | apply bN | apply bD | refine below_set ?_ (iG HI0.out))); rintro e w43 ⟨rfl, hi, hb, hk⟩; refine ⟨_, rfl, ?_⟩; replace HK := Aside0.mk (KeepBut.trans (by repeat (first | exact HK.out | apply kS | apply kN | apply kD | apply kA)) hk (.inl rfl)); replace HB := Aside0.mk (hb); replace HI0 := Aside0.mk (hi); (try clear hb2); (try clear hb hk hi)) | ((with_reducible refine gate_callee (f := 38) rfl ?_); refine goesL_ (some 11) rfl rfl Try.func38 (by kernel_rfl) rfl #[.pointer (some ⟨g, 0, none⟩), .int .i64 t392] rfl (by (try simp only [List.map_toArray, List.map_cons, List.map_nil]); first | done | rfl) ?_; (with_reducible refine (spec_l1Cur_sure.calls k g s0_0 t393 t394 t392 t395 t398 t399 w0 _ ?side1 ?side2 A4.out).mono ?_); (case side1 => repeat (first | exact HI0.out | apply iA | apply iN | apply iD | apply i1 | apply i2)); (case side2 => repeat (first | exact HB.out | apply bA | apply bN | apply bD | refine below_set ?_ (iG HI0.out))); rintro e w44 ⟨v396, rfl, ho0, hi, hb, hk⟩; refine ⟨_, rfl, ?_⟩; have HO397 := Aside0.mk (Kd.R_lower ho0 (keep_size (w := w) (g := g) (row := none) (by repeat (first | exact HK.out | apply kS | apply kN | apply kD | apply kA)))); replace HK := Aside0.mk (KeepBut.trans (by repeat (first | exact HK.out | apply kS | apply kN | apply kD | apply kA)) hk (.inl rfl)); replace HB := Aside0.mk (hb); replace HI0 := Aside0.mk (hi); (try clear hb2); (try clear hb hk hi); (try clear ho0)) | ((with_reducible refine gate_callee (f := 29) rfl ?_); refine goesL_ (some 13) rfl rfl Try.func29 (by kernel_rfl) rfl #[.pointer (some ⟨g, 0, none⟩), .int .i64 16] rfl (by (try simp only [List.map_toArray, List.map_cons, List.map_nil]); first | done | rfl) ?_; (with_reducible refine (spec_l1Cur_pick.calls g s0_0 t398 t399 16 t400 t401 t402 w0 _ ?side1 ?side2 A5.out).mono ?_); (case side1 => repeat (first | exact HI0.out | apply iA | apply iN | apply iD | apply i1 | apply i2)); (case side2 => repeat (first | exact HB.out | apply bA | apply bN | apply bD | refine below_set ?_ (iG HI0.out))); rintro e w45 ⟨rfl, hi, hb, hk⟩; refine ⟨_, rfl, ?_⟩; replace HO397 := Aside0.mk (Kd.R_mono (Kd.R_keep (IsS48.apart (show IsS48 w0 _ g s0_0 t398 t399 from by repeat (first | exact HI0.out | apply iA | apply iN | apply iD | apply i1 | apply i2)) (by (with_reducible repeat (first | apply rA | apply rN | apply rD)); exact HO397.out) (by decide)) hk (fun _ h => h.2)) (fun _ h => h.1)); replace HK := Aside0.mk (KeepBut.trans (by repeat (first | exact HK.out | apply kS | apply kN | apply kD | apply kA)) hk (.inl rfl)); replace HB := Aside0.mk (hb); replace HI0 := Aside0.mk (hi); (try clear hb2); (try clear hb hk hi)) | ((with_reducible refine gate_callee (f := 29) rfl ?_); refine goesL_ (some 48) rfl rfl Try.func29 (by kernel_rfl) rfl #[.pointer (some ⟨g, 0, none⟩), .int .i64 7] rfl (by (try simp only [List.map_toArray, List.map_cons, List.map_nil]); first | done | rfl) ?_; (with_reducible refine (spec_l1Cur_pick.calls g s0_0 t401 t402 7 t419 t420 t421 w0 _ ?side1 ?side2 A41.out).mono ?_); (case side1 => repeat (first | exact HI0.out | apply iA | apply iN | apply iD | apply i1 | apply i2)); (case side2 => repeat (first | exact HB.out | apply bA | apply bN | apply bD | refine below_set ?_ (iG HI0.out))); rintro e w46 ⟨rfl, hi, hb, hk⟩; refine ⟨_, rfl, ?_⟩; replace HO397 := Aside0.mk (Kd.R_mono (Kd.R_keep (IsS48.apart (show IsS48 w0 _ g s0_0 t401 t402 from by repeat (first | exact HI0.out | apply iA | apply iN | apply iD | apply i1 | apply i2)) (by (with_reducible repeat (first | apply rA | apply rN | apply rD)); exact HO397.out) (by decide)) hk (fun _ h => h.2)) (fun _ h => h.1)); replace HK := Aside0.mk (KeepBut.trans (by repeat (first | exact HK.out | apply kS | apply kN | apply kD | apply kA)) hk (.inl rfl)); replace HB := Aside0.mk (hb); replace HI0 := Aside0.mk (hi); (try clear hb2); (try clear hb hk hi)) | ((with_reducible refine gate_callee (f := 61) rfl ?_); refine goesL_ (some 49) rfl rfl Try.func61 (by kernel_rfl) rfl #[.int .i64 t419] rfl (by (try simp only [List.map_toArray, List.map_cons, List.map_nil]); first | done | rfl) ?_; (with_reducible refine (spec_ahRainbow.calls k t419 t422 _ A42.out).mono ?_); rintro e w47 ⟨v423, rfl, ho0, hb⟩; refine ⟨_, rfl, ?_⟩; have HO424 := Aside0.mk (Kd.R_lower (Kd.R_new' ho0 (Kd.R_lt (by (with_reducible repeat (first | apply rA | apply rN | apply rD)); exact HO397.out))) (keep_size (w := w) (g := g) (row := none) (by repeat (first | exact HK.out | apply kS | apply kN | apply kD | apply kA)))); replace HO397 := Aside0.mk (Kd.R_elder' (by (with_reducible repeat (first | apply rA | apply rN | apply rD)); exact HO397.out) (Kd.R_base ho0) hb); replace HK := Aside0.mk (KeepBut.trans (by repeat (first | exact HK.out | apply kS | apply kN | apply kD | apply kA)) (KeepBut.of_below hb g none) (.inl rfl)); replace HB := Aside0.mk (below_step (by repeat (first | exact HB.out | apply bA | apply bN | apply bD | refine below_set ?_ (iG HI0.out))) hb); replace HI0 := Aside0.mk (IsS48.below (by repeat (first | exact HI0.out | apply iA | apply iN | apply iD | apply i1 | apply i2)) hb); (try clear hb2); (try clear hb hk hi); (try clear ho0)))
     go_ret
     exact ⟨_, by first | rfl | (simp [*, errW_none, errW_some] <;> rfl), by (with_reducible repeat (first | apply rA | apply rN | apply rD)); exact Kd.R_mono HO424.out (fun _ hk => trivial), by repeat (first | exact HI0.out | apply iA | apply iN | apply iD | apply i1 | apply i2), by repeat (first | exact HB.out | apply bA | apply bN | apply bD | refine below_set ?_ (iG HI0.out)), by repeat (first | exact HK.out | apply kS | apply kN | apply kD | apply kA)⟩
    ·rw [if_neg c40] at H
     have c40b0 : (t400 == 3) = false := beq_eq_false_iff_ne.mpr c40
     have c40b1 : (t400 != 3) = true := bne_iff_ne.mpr c40
     simp only [Option.some.injEq, Prod.mk.injEq] at H
     obtain ⟨rfl, rfl, rfl⟩ := H
     go_enter Try.func52, Try.ntmps52
     go_wp2_with (first | ((with_reducible refine gate_callee (f := 29) rfl ?_); refine goesL_ (some 10) rfl rfl Try.func29 (by kernel_rfl) rfl #[.pointer (some ⟨g, 0, none⟩), .int .i64 (wrap64 (a1 + 1))] rfl (by (try simp only [List.map_toArray, List.map_cons, List.map_nil]); first | done | rfl) ?_; (with_reducible refine (spec_l1Cur_pick.calls g s0_0 s0_1 s0_2 (wrap64 (a1 + 1)) t392 t393 t394 w0 _ ?side1 ?side2 A3.out).mono ?_); (case side1 => repeat (first | exact HI0.out | apply iA | apply iN | apply iD | apply i1 | apply i2)); (case side2 => repeat (first | exact HB.out | apply bA | apply bN | apply bD | refine below_set ?_ (iG HI0.out))); rintro e w48 ⟨rfl, hi, hb, hk⟩; refine ⟨_, rfl, ?_⟩; replace HK := Aside0.mk (KeepBut.trans (by repeat (first | exact HK.out | apply kS | apply kN | apply kD | apply kA)) hk (.inl rfl)); replace HB := Aside0.mk (hb); replace HI0 := Aside0.mk (hi); (try clear hb2); (try clear hb hk hi)) | ((with_reducible refine gate_callee (f := 38) rfl ?_); refine goesL_ (some 11) rfl rfl Try.func38 (by kernel_rfl) rfl #[.pointer (some ⟨g, 0, none⟩), .int .i64 t392] rfl (by (try simp only [List.map_toArray, List.map_cons, List.map_nil]); first | done | rfl) ?_; (with_reducible refine (spec_l1Cur_sure.calls k g s0_0 t393 t394 t392 t395 t398 t399 w0 _ ?side1 ?side2 A4.out).mono ?_); (case side1 => repeat (first | exact HI0.out | apply iA | apply iN | apply iD | apply i1 | apply i2)); (case side2 => repeat (first | exact HB.out | apply bA | apply bN | apply bD | refine below_set ?_ (iG HI0.out))); rintro e w49 ⟨v396, rfl, ho0, hi, hb, hk⟩; refine ⟨_, rfl, ?_⟩; have HO397 := Aside0.mk (Kd.R_lower ho0 (keep_size (w := w) (g := g) (row := none) (by repeat (first | exact HK.out | apply kS | apply kN | apply kD | apply kA)))); replace HK := Aside0.mk (KeepBut.trans (by repeat (first | exact HK.out | apply kS | apply kN | apply kD | apply kA)) hk (.inl rfl)); replace HB := Aside0.mk (hb); replace HI0 := Aside0.mk (hi); (try clear hb2); (try clear hb hk hi); (try clear ho0)) | ((with_reducible refine gate_callee (f := 29) rfl ?_); refine goesL_ (some 13) rfl rfl Try.func29 (by kernel_rfl) rfl #[.pointer (some ⟨g, 0, none⟩), .int .i64 16] rfl (by (try simp only [List.map_toArray, List.map_cons, List.map_nil]); first | done | rfl) ?_; (with_reducible refine (spec_l1Cur_pick.calls g s0_0 t398 t399 16 t400 t401 t402 w0 _ ?side1 ?side2 A5.out).mono ?_); (case side1 => repeat (first | exact HI0.out | apply iA | apply iN | apply iD | apply i1 | apply i2)); (case side2 => repeat (first | exact HB.out | apply bA | apply bN | apply bD | refine below_set ?_ (iG HI0.out))); rintro e w50 ⟨rfl, hi, hb, hk⟩; refine ⟨_, rfl, ?_⟩; replace HO397 := Aside0.mk (Kd.R_mono (Kd.R_keep (IsS48.apart (show IsS48 w0 _ g s0_0 t398 t399 from by repeat (first | exact HI0.out | apply iA | apply iN | apply iD | apply i1 | apply i2)) (by (with_reducible repeat (first | apply rA | apply rN | apply rD)); exact HO397.out) (by decide)) hk (fun _ h => h.2)) (fun _ h => h.1)); replace HK := Aside0.mk (KeepBut.trans (by repeat (first | exact HK.out | apply kS | apply kN | apply kD | apply kA)) hk (.inl rfl)); replace HB := Aside0.mk (hb); replace HI0 := Aside0.mk (hi); (try clear hb2); (try clear hb hk hi)))
     go_ret
     exact ⟨_, by first | rfl | (simp [*, errW_none, errW_some] <;> rfl), by (with_reducible repeat (first | apply rA | apply rN | apply rD)); exact HO397.out, by repeat (first | exact HI0.out | apply iA | apply iN | apply iD | apply i1 | apply i2), by repeat (first | exact HB.out | apply bA | apply bN | apply bD | refine below_set ?_ (iG HI0.out)), by repeat (first | exact HK.out | apply kS | apply kN | apply kD | apply kA)⟩

/-! ### spec_DrawIsSystem: function 43 (by hand) -/
/-! ### spec_DrawIsSystem_m: function 43 -/
def spec_DrawIsSystem_m.f (k : Nat) (s0_0 : List Int) (s0_1 : Int) (s0_2 : Int) : Option (List Int × Int × Int) := (spec_l1Cur_system.f k s0_0 s0_1 s0_2 6).bind fun bt425 => (some (bt425.1, bt425.2.1, bt425.2.2))
theorem spec_DrawIsSystem_m.mono : ∀ a0 a1 a2 k, LeO (spec_DrawIsSystem_m.f k a0 a1 a2) (spec_DrawIsSystem_m.f (k + 1) a0 a1 a2) := by
 intro a0 a1 a2 k
 unfold spec_DrawIsSystem_m.f
 repeat' first
   | (with_reducible exact spec_l1Cur_system.mono _ _ _ _ _)
   | (with_reducible exact LeO.refl _)
   | (with_reducible exact LeO.none _)
   | (with_reducible refine LeO.ite ?_ ?_)
   | (with_reducible refine LeO.bind ?_ (fun _ => ?_))
   | exact LeO.none _
   | refine LeO.ite ?_ ?_
   | refine LeO.bind ?_ (fun _ => ?_)
def spec_DrawIsSystem.f (k : Nat) (l0 : List Int) : Option (List Int) := (spec_DrawIsSystem_m.f k l0 0 0).bind fun t => some (t.1)
theorem spec_DrawIsSystem.mono : ∀ a0 k, LeO (spec_DrawIsSystem.f k a0) (spec_DrawIsSystem.f (k + 1) a0) := fun a0 k => LeO.bind (spec_DrawIsSystem_m.mono a0 0 0 k) (fun _ => LeO.refl _)
theorem spec_DrawIsSystem.calls (k : Nat) (A0 : Option Addr) (c0 : Nat) (s0_0 : List Int) (z_r1 : List Int) (w : World) (hr0 : Kd.C (Kd.int .u8) w A0 s0_0.length s0_0) (hc0 : s0_0.length ≤ c0) (h : spec_DrawIsSystem.f k s0_0 = some (z_r1)) :
  Calls Try.prog 43 #[.slice A0 s0_0.length c0] w fun e w' => ∃ v0_ : Value, e = .returned (v0_) ∧ Kd.R (Kd.int .i64) 3 w' w.heap.size (fun _ => True) v0_ z_r1 ∧ Below w.heap.size w w' := by
 unfold spec_DrawIsSystem.f at h
 obtain ⟨⟨r1, r2, r3⟩, hm_, hx⟩ := Option.bind_eq_some_iff.mp h
 clear h
 simp only [Option.some.injEq, Prod.mk.injEq] at hx
 obtain rfl := hx
 have h := hm_
 clear hm_
 go_enter Try.func43, Try.ntmps43
 go_upto_region 2 with (fail)
 have HBX : Below w.heap.size w (w.alloc (.cells #[.slice A0 s0_0.length c0, .int .i64 0, .int .u64 0] 48)) := below_alloc (Below.refl _ _) _
 have HIX : IsS48 w (w.alloc (.cells #[.slice A0 s0_0.length c0, .int .i64 0, .int .u64 0] 48)) w.heap.size s0_0 0 0 := ⟨A0, c0, (by first | (simp [World.alloc]; done) | exact Array.getElem?_push_size), Nat.le_refl _, hr0⟩
 have HSX : w.heap.size + 1 ≤ (w.alloc (.cells #[.slice A0 s0_0.length c0, .int .i64 0, .int .u64 0] 48)).heap.size := by simp
 generalize (w.alloc (.cells #[.slice A0 s0_0.length c0, .int .i64 0, .int .u64 0] 48)) = wb at HBX HIX HSX ⊢
 have HI0 := Aside0.mk HIX
 have HK := Aside0.mk (KeepBut.refl wb w.heap.size none)
 have HL := Aside0.mk HBX.size
 have HW0 := Aside0.mk HBX.size
 have HBXS : Aside0 (w.heap.size ≤ wb.heap.size) := ⟨HBX.size⟩
 have HB := Aside0.mk HBX
 clear HBX HIX
 have H : ((spec_l1Cur_system.f k s0_0 0 0 6).bind fun bt425 => (some (bt425.1, bt425.2.1, bt425.2.2))) = some (r1, r2, r3) := h
 clear h
 replace H := Option.bind_eq_some_iff.mp H
 obtain ⟨⟨t425, t428, t429⟩, A20, H⟩ := H
 replace H : (some (t425, t428, t429)) = some (r1, r2, r3) := H
 have A2 := Aside0.mk A20
 clear A20
 simp only [Option.some.injEq, Prod.mk.injEq] at H
 obtain ⟨rfl, rfl, rfl⟩ := H
 go_wp2_with (first | ((with_reducible refine gate_callee (f := 52) rfl ?_); refine goesL_ (some 8) rfl rfl Try.func52 (by kernel_rfl) rfl #[.pointer (some ⟨w.heap.size, 0, none⟩), .int .i64 6] rfl (by (try simp only [List.map_toArray, List.map_cons, List.map_nil]); first | done | rfl) ?_; (with_reducible refine (spec_l1Cur_system.calls k w.heap.size s0_0 0 0 6 t425 t428 t429 w _ ?side1 ?side2 A2.out).mono ?_); (case side1 => repeat (first | exact HI0.out | apply iA | apply iN | apply iD | apply i1 | apply i2)); (case side2 => repeat (first | exact HB.out | apply bA | apply bN | apply bD | refine below_set ?_ (iG HI0.out))); rintro e w3 ⟨v426, rfl, ho0, hi, hb, hk⟩; refine ⟨_, rfl, ?_⟩; have HO427 := Aside0.mk (Kd.R_lower ho0 (keep_size (w := wb) (g := w.heap.size) (row := none) (by repeat (first | exact HK.out | apply kS | apply kN | apply kD | apply kA)))); replace HK := Aside0.mk (KeepBut.trans (by repeat (first | exact HK.out | apply kS | apply kN | apply kD | apply kA)) hk (.inl rfl)); replace HB := Aside0.mk (hb); replace HI0 := Aside0.mk (hi); (try clear hb2); (try clear hb hk hi); (try clear ho0)))
 go_ret
 exact ⟨_, by first | rfl | (simp [*, errW_none, errW_some] <;> rfl), Kd.R_lower (by (with_reducible repeat (first | apply rA | apply rN | apply rD)); exact HO427.out) HBXS.out, by repeat (first | exact HB.out | apply bA | apply bN | apply bD | refine below_set ?_ (iG HI0.out))⟩

/-! ### spec_DrawNextSystem: function 21 -/
def spec_DrawNextSystem.f (k : Nat) (l0 : List Int) : Option (List Int) := (spec_DrawIsSystem.f k l0).bind fun t430 => (some t430)
theorem spec_DrawNextSystem.mono : ∀ a0 k, LeO (spec_DrawNextSystem.f k a0) (spec_DrawNextSystem.f (k + 1) a0) := by
 intro a0 k
 unfold spec_DrawNextSystem.f
 repeat' first
   | (with_reducible exact spec_DrawIsSystem.mono _ _)
   | (with_reducible exact LeO.refl _)
   | (with_reducible exact LeO.none _)
   | (with_reducible refine LeO.ite ?_ ?_)
   | (with_reducible refine LeO.bind ?_ (fun _ => ?_))
   | exact LeO.none _
   | refine LeO.ite ?_ ?_
   | refine LeO.bind ?_ (fun _ => ?_)
theorem spec_DrawNextSystem.calls (k : Nat) (A0 : Option Addr) (c0 : Nat) (l0 : List Int) (r : List Int) (w : World) (hr0 : Kd.C (Kd.int .u8) w A0 l0.length l0) (hc0 : l0.length ≤ c0) (h : spec_DrawNextSystem.f k l0 = some r) :
  Calls Try.prog 21 #[.slice A0 l0.length c0] w fun e w' => ∃ v0_ : Value, e = .returned (v0_) ∧ Kd.R (Kd.int .i64) 3 w' w.heap.size (fun _ => True) v0_ r ∧ Below w.heap.size w w' := by
 have HR0 := Aside0.mk hr0
 have HC0 := Aside0.mk hc0
 clear hr0 hc0
 have HB := Aside0.mk (Below.refl w.heap.size w)
 have H : ((spec_DrawIsSystem.f k l0).bind fun t430 => (some t430)) = some r := h
 clear h
 replace H := Option.bind_eq_some_iff.mp H
 obtain ⟨t430, A20, H⟩ := H
 replace H : (some t430) = some r := H
 have A2 := Aside0.mk A20
 clear A20
 obtain rfl := Option.some.inj H
 go_enter Try.func21, Try.ntmps21
 go_wp2_with (first | ((with_reducible refine gate_callee (f := 43) rfl ?_); refine goesL_ (some 4) rfl rfl Try.func43 (by kernel_rfl) rfl #[.slice A0 l0.length c0] rfl (by (try simp only [List.map_toArray, List.map_cons, List.map_nil]); first | done | rfl) ?_; (with_reducible refine (spec_DrawIsSystem.calls k _ _ l0 t430 _ ?side1 ?side2 A2.out).mono ?_); (case side1 => repeat (first | exact HR0.out | (with_reducible refine Kd.C_alloc ?_ _) | (with_reducible refine Kd.C_drewN ?_ _) | (with_reducible refine Kd.C_drew ?_))); (case side2 => exact HC0.out); rintro e w3 ⟨v431, rfl, ho0, hb⟩; refine ⟨_, rfl, ?_⟩; have HO432 := Aside0.mk (Kd.R_lower ho0 (below_size (by repeat (first | exact HB.out | apply bA | apply bN | apply bD)))); replace HB := Aside0.mk (below_step (by repeat (first | exact HB.out | apply bA | apply bN | apply bD)) hb); (try clear hb2); (try clear hb hk hi); (try clear ho0)))
 go_ret
 exact ⟨_, by first | rfl | (simp [*, errW_none, errW_some] <;> rfl), by (with_reducible repeat (first | apply rA | apply rN | apply rD)); exact HO432.out, by repeat (first | exact HB.out | apply bA | apply bN | apply bD)⟩

/-! ### slices_BinarySearchFunc_int_int_int: function 53 (by hand) -/
/-! ### slices_BinarySearchFunc_int_int_int: function 53 -/
def slices_BinarySearchFunc_int_int_int.l0 : Nat → List (List Int) → List Int → Int → Int → Int → Option (Int × Bool)
 | 0, _, _, _, _, _ => none
 | k + 1, x0, x1, x8, x9, x10 => if x9 < x10 then (if 0 ≤ (wrap64 ((IntKind.u64.wrap (wrap64 (x9 + x10))) / 2)) then (if (wrap64 ((IntKind.u64.wrap (wrap64 (x9 + x10))) / 2)) < (x0.length : Int) then ((slices_Compare_int_int.f k (rd_L2 x0 (wrap64 ((IntKind.u64.wrap (wrap64 (x9 + x10))) / 2))) x1).bind fun t434 => (if t434 < 0 then (slices_BinarySearchFunc_int_int_int.l0 k x0 x1 x8 (wrap64 ((wrap64 ((IntKind.u64.wrap (wrap64 (x9 + x10))) / 2)) + 1)) x10) else (slices_BinarySearchFunc_int_int_int.l0 k x0 x1 x8 x9 (wrap64 ((IntKind.u64.wrap (wrap64 (x9 + x10))) / 2))))) else (none)) else (none)) else (if x9 < x8 then (if 0 ≤ x9 then (if x9 < (x0.length : Int) then ((slices_Compare_int_int.f k (rd_L2 x0 x9) x1).bind fun t436 => (some (x9, (t436 == 0)))) else (none)) else (none)) else (some (x9, false)))
def slices_BinarySearchFunc_int_int_int.f (k : Nat) (l0 : List (List Int)) (l1 : List Int) : Option (Int × Bool) := slices_BinarySearchFunc_int_int_int.l0 k l0 l1 (l0.length : Int) 0 (l0.length : Int)
theorem slices_BinarySearchFunc_int_int_int.mono_l : ∀ k, (∀ y0 y1 y2 y3 y4, LeO (slices_BinarySearchFunc_int_int_int.l0 k y0 y1 y2 y3 y4) (slices_BinarySearchFunc_int_int_int.l0 (k + 1) y0 y1 y2 y3 y4))
 | 0 => fun _ _ _ _ _ r h => by simp [slices_BinarySearchFunc_int_int_int.l0] at h
 | k + 1 => by
  have ih0 := slices_BinarySearchFunc_int_int_int.mono_l k
  ·intro y0 y1 y2 y3 y4
   unfold slices_BinarySearchFunc_int_int_int.l0
   repeat' first
   | (with_reducible exact ih0 _ _ _ _ _)
   | (with_reducible exact slices_Compare_int_int.mono _ _ _)
   | (with_reducible exact LeO.refl _)
   | (with_reducible exact LeO.none _)
   | (with_reducible refine LeO.ite ?_ ?_)
   | (with_reducible refine LeO.bind ?_ (fun _ => ?_))
   | exact LeO.none _
   | refine LeO.ite ?_ ?_
   | refine LeO.bind ?_ (fun _ => ?_)
theorem slices_BinarySearchFunc_int_int_int.mono : ∀ a0 a1 k, LeO (slices_BinarySearchFunc_int_int_int.f k a0 a1) (slices_BinarySearchFunc_int_int_int.f (k + 1) a0 a1) := by
 intro a0 a1 k
 have ih0 := slices_BinarySearchFunc_int_int_int.mono_l k
 unfold slices_BinarySearchFunc_int_int_int.f
 repeat' first
   | (with_reducible exact ih0 _ _ _ _ _)
   | (with_reducible exact slices_Compare_int_int.mono _ _ _)
   | (with_reducible exact LeO.refl _)
   | (with_reducible exact LeO.none _)
   | (with_reducible refine LeO.ite ?_ ?_)
   | (with_reducible refine LeO.bind ?_ (fun _ => ?_))
   | exact LeO.none _
   | refine LeO.ite ?_ ?_
   | refine LeO.bind ?_ (fun _ => ?_)
theorem slices_BinarySearchFunc_int_int_int.calls (k : Nat) (A0 : Option Addr) (c0 : Nat) (l0 : List (List Int)) (A1 : Option Addr) (c1 : Nat) (l1 : List Int) (r1 : Int) (r2 : Bool) (w : World) (hr0 : Kd.C (Kd.slice 3 (Kd.int .i64)) w A0 l0.length l0) (hc0 : l0.length ≤ c0) (hr1 : Kd.C (Kd.int .i64) w A1 l1.length l1) (hc1 : l1.length ≤ c1) (h : slices_BinarySearchFunc_int_int_int.f k l0 l1 = some (r1, r2)) :
  Calls Try.prog 53 #[.slice A0 l0.length c0, .slice A1 l1.length c1, .func (.func 51) #[] #[]] w fun e w' => e = .returned (.tuple #[.int .i64 r1, .bool r2]) ∧ Drawn0 w w' := by
 have HR0 := Aside0.mk hr0
 have HC0 := Aside0.mk hc0
 clear hr0 hc0
 have eg := fun args w => enters_ (P := Try.prog) Try.func51 (by kernel_rfl) rfl args w
 have HR1 := Aside0.mk hr1
 have HC1 := Aside0.mk hc1
 clear hr1 hc1
 have H : (slices_BinarySearchFunc_int_int_int.l0 k l0 l1 (l0.length : Int) 0 (l0.length : Int)) = some (r1, r2) := h
 clear h
 have H' := Aside0.mk H
 clear H
 go_enter Try.func53, Try.ntmps53
 go_wp2
 go_loopg [9, 10] k (fun kq v9 v10 w' => ∃ (x9_1 : Int) (x10_1 : Int), v9 = .int .i64 x9_1 ∧ v10 = .int .i64 x10_1 ∧ Aside0 (slices_BinarySearchFunc_int_int_int.l0 kq l0 l1 (l0.length : Int) x9_1 x10_1 = some (r1, r2)) ∧ Aside0 (kq ≤ k) ∧ Drawn0 w w')
 case atStart => exact ⟨(0), ((l0.length : Int)), (by first | rfl | (simp; done) | (simp [*]; done)), (by first | rfl | (simp; done) | (simp [*]; done)), H', ⟨Nat.le_refl _⟩, by repeat (first | exact Drawn0.refl _ | apply Drawn0.step)⟩
 case round =>
  clear H'
  try clear p2
  obtain ⟨x9_1, x10_1, rfl, rfl, HA, HK1, ⟨m1, rfl⟩⟩ := hrel
  cases gk with
  | zero => exact absurd HA.out (by simp [slices_BinarySearchFunc_int_int_int.l0])
  | succ k1 =>
   have H := HA.out
   clear HA
   simp only [slices_BinarySearchFunc_int_int_int.l0] at H
   by_cases c3 : x9_1 < x10_1
   ·rw [if_pos c3] at H
    have c3b0 : decide (x9_1 < x10_1) = true := decide_eq_true c3
    clear c3
    obtain ⟨ji4, hji4⟩ : ∃ j_ : Int, (wrap64 ((IntKind.u64.wrap (wrap64 (x9_1 + x10_1))) / 2)) = j_ := ⟨_, rfl⟩
    replace H : (if 0 ≤ (ji4) then (if (ji4) < (l0.length : Int) then ((slices_Compare_int_int.f k1 (rd_L2 l0 (ji4)) l1).bind fun t434 => (if t434 < 0 then (slices_BinarySearchFunc_int_int_int.l0 k1 l0 l1 (l0.length : Int) (wrap64 ((ji4) + 1)) x10_1) else (slices_BinarySearchFunc_int_int_int.l0 k1 l0 l1 (l0.length : Int) x9_1 ji4))) else (none)) else (none)) = some (r1, r2) := by first | (rw [hji4] at H; exact H) | (simp only [hji4] at H ⊢; exact H)
    have hji4w : (IntKind.i64.wrap ((IntKind.u64.wrap (wrap64 (x9_1 + x10_1))) / 2)) = ji4 := (i64_w _).trans hji4
    by_cases c5 : 0 ≤ (ji4)
    ·rw [if_pos c5] at H
     have c5b0 : decide (0 ≤ (ji4)) = true := decide_eq_true c5
     clear c5
     by_cases c6 : (ji4) < (l0.length : Int)
     ·rw [if_pos c6] at H
      have c6b0 : decide ((ji4) < (l0.length : Int)) = true := decide_eq_true c6
      clear c6
      replace H := Option.bind_eq_some_iff.mp H
      obtain ⟨t434, A70, H⟩ := H
      replace H : (if t434 < 0 then (slices_BinarySearchFunc_int_int_int.l0 k1 l0 l1 (l0.length : Int) (wrap64 ((ji4) + 1)) x10_1) else (slices_BinarySearchFunc_int_int_int.l0 k1 l0 l1 (l0.length : Int) x9_1 ji4)) = some (r1, r2) := H
      have A7 := Aside0.mk A70
      clear A70
      by_cases c8 : t434 < 0
      ·rw [if_pos c8] at H
       have c8b0 : decide (t434 < 0) = true := decide_eq_true c8
       clear c8
       have H' := Aside0.mk H
       clear H
       have p433 : 0 ≤ ((ji4) : Int) := of_decide_eq_true (by assumption)
       have q433 : (ji4) < (l0.length : Int) := of_decide_eq_true (by assumption)
       obtain ⟨ad433, A433_0, c433_0, e433, hx433_0, hl433_0, hi433_0⟩ := at_L2 HR0.out (ji4) p433 q433
       cases e433
       have HR433_0 := Aside0.mk hi433_0
       have HC433_0 := Aside0.mk hl433_0
       clear hi433_0 hl433_0
       replace p433 := eq_true p433
       replace q433 := eq_true q433
       go_wp2_with (first | ((with_reducible refine (slices_Compare_int_int.calls k1 _ _ (rd_L2 l0 (ji4)) _ _ l1 t434 _ ?side1 ?side2 ?side3 ?side4 A7.out).mono ?_); (case side1 => repeat (first | exact HR433_0.out | (with_reducible refine Kd.C_alloc ?_ _) | (with_reducible refine Kd.C_drewN ?_ _) | (with_reducible refine Kd.C_drew ?_))); (case side2 => exact HC433_0.out); (case side3 => repeat (first | exact HR1.out | (with_reducible refine Kd.C_alloc ?_ _) | (with_reducible refine Kd.C_drewN ?_ _) | (with_reducible refine Kd.C_drew ?_))); (case side4 => exact HC1.out); rintro e w' ⟨rfl, ⟨nd, rfl⟩⟩))
       go_roundg k1
       case measure => have := HK1.out; omega
       case rel => exact ⟨(wrap64 ((ji4) + 1)), (x10_1), (by first | rfl | (simp; done) | (simp only [← hji4] <;> (first | rfl | simp)) | (simp [*]; done)), (by first | rfl | (simp; done) | (simp [*]; done)), H', ⟨by have := HK1.out; omega⟩, by repeat (first | exact Drawn0.refl _ | apply Drawn0.step)⟩
      ·rw [if_neg c8] at H
       have c8b0 : decide (t434 < 0) = false := decide_eq_false c8
       clear c8
       have H' := Aside0.mk H
       clear H
       have p433 : 0 ≤ ((ji4) : Int) := of_decide_eq_true (by assumption)
       have q433 : (ji4) < (l0.length : Int) := of_decide_eq_true (by assumption)
       obtain ⟨ad433, A433_0, c433_0, e433, hx433_0, hl433_0, hi433_0⟩ := at_L2 HR0.out (ji4) p433 q433
       cases e433
       have HR433_0 := Aside0.mk hi433_0
       have HC433_0 := Aside0.mk hl433_0
       clear hi433_0 hl433_0
       replace p433 := eq_true p433
       replace q433 := eq_true q433
       go_wp2_with (first | ((with_reducible refine (slices_Compare_int_int.calls k1 _ _ (rd_L2 l0 (ji4)) _ _ l1 t434 _ ?side1 ?side2 ?side3 ?side4 A7.out).mono ?_); (case side1 => repeat (first | exact HR433_0.out | (with_reducible refine Kd.C_alloc ?_ _) | (with_reducible refine Kd.C_drewN ?_ _) | (with_reducible refine Kd.C_drew ?_))); (case side2 => exact HC433_0.out); (case side3 => repeat (first | exact HR1.out | (with_reducible refine Kd.C_alloc ?_ _) | (with_reducible refine Kd.C_drewN ?_ _) | (with_reducible refine Kd.C_drew ?_))); (case side4 => exact HC1.out); rintro e w' ⟨rfl, ⟨nd, rfl⟩⟩))
       go_roundg k1
       case measure => have := HK1.out; omega
       case rel => exact ⟨(x9_1), (ji4), (by first | rfl | (simp; done) | (simp [*]; done)), (by first | rfl | (simp; done) | (simp only [← hji4] <;> (first | rfl | simp)) | (simp [*]; done)), H', ⟨by have := HK1.out; omega⟩, by repeat (first | exact Drawn0.refl _ | apply Drawn0.step)⟩
     ·rw [if_neg c6] at H
      exact absurd H (by simp)
    ·rw [if_neg c5] at H
     exact absurd H (by simp)
   ·rw [if_neg c3] at H
    have c3b0 : decide (x9_1 < x10_1) = false := decide_eq_false c3
    clear c3
    by_cases c9 : x9_1 < (l0.length : Int)
    ·rw [if_pos c9] at H
     have c9b0 : decide (x9_1 < (l0.length : Int)) = true := decide_eq_true c9
     clear c9
     by_cases c10 : 0 ≤ x9_1
     ·rw [if_pos c10] at H
      have c10b0 : decide (0 ≤ x9_1) = true := decide_eq_true c10
      clear c10
      by_cases c11 : x9_1 < (l0.length : Int)
      ·rw [if_pos c11] at H
       have c11b0 : decide (x9_1 < (l0.length : Int)) = true := decide_eq_true c11
       clear c11
       replace H := Option.bind_eq_some_iff.mp H
       obtain ⟨t436, A120, H⟩ := H
       replace H : (some (x9_1, (t436 == 0))) = some (r1, r2) := H
       have A12 := Aside0.mk A120
       clear A120
       simp only [Option.some.injEq, Prod.mk.injEq] at H
       obtain ⟨rfl, rfl⟩ := H
       have p435 : 0 ≤ (x9_1 : Int) := of_decide_eq_true (by assumption)
       have q435 : x9_1 < (l0.length : Int) := of_decide_eq_true (by assumption)
       obtain ⟨ad435, A435_0, c435_0, e435, hx435_0, hl435_0, hi435_0⟩ := at_L2 HR0.out x9_1 p435 q435
       cases e435
       have HR435_0 := Aside0.mk hi435_0
       have HC435_0 := Aside0.mk hl435_0
       clear hi435_0 hl435_0
       replace p435 := eq_true p435
       replace q435 := eq_true q435
       go_wp2_with (first | ((with_reducible refine (slices_Compare_int_int.calls k1 _ _ (rd_L2 l0 x9_1) _ _ l1 t436 _ ?side1 ?side2 ?side3 ?side4 A12.out).mono ?_); (case side1 => repeat (first | exact HR435_0.out | (with_reducible refine Kd.C_alloc ?_ _) | (with_reducible refine Kd.C_drewN ?_ _) | (with_reducible refine Kd.C_drew ?_))); (case side2 => exact HC435_0.out); (case side3 => repeat (first | exact HR1.out | (with_reducible refine Kd.C_alloc ?_ _) | (with_reducible refine Kd.C_drewN ?_ _) | (with_reducible refine Kd.C_drew ?_))); (case side4 => exact HC1.out); rintro e w' ⟨rfl, ⟨nd, rfl⟩⟩))
       go_ret2
       exact ⟨by first | rfl | (simp; done) | (simp [*]; done), by repeat (first | exact Drawn0.refl _ | apply Drawn0.step)⟩
      ·rw [if_neg c11] at H
       exact absurd H (by simp)
     ·rw [if_neg c10] at H
      exact absurd H (by simp)
    ·rw [if_neg c9] at H
     have c9b0 : decide (x9_1 < (l0.length : Int)) = false := decide_eq_false c9
     clear c9
     simp only [Option.some.injEq, Prod.mk.injEq] at H
     obtain ⟨rfl, rfl⟩ := H
     go_wp2
     go_ret2
     exact ⟨by first | rfl | (simp; done) | (simp [*]; done), by repeat (first | exact Drawn0.refl _ | apply Drawn0.step)⟩

/-! ### impl_rankOf: function 44 (by hand) -/
/-! ### impl_rankOf: function 44 -/
def impl_rankOf.f (k : Nat) (l0 : List Int) : Option (Int) := (impl_systems.f k (wrap64 ((l0.length : Int) / 2))).bind fun t437 => ((slices_BinarySearchFunc_int_int_int.f k t437 l0).bind fun bt440 => (some bt440.1))
theorem impl_rankOf.mono : ∀ a0 k, LeO (impl_rankOf.f k a0) (impl_rankOf.f (k + 1) a0) := by
 intro a0 k
 unfold impl_rankOf.f
 repeat' first
   | (with_reducible exact impl_systems.mono _ _)
   | (with_reducible exact slices_BinarySearchFunc_int_int_int.mono _ _ _)
   | (with_reducible exact LeO.refl _)
   | (with_reducible exact LeO.none _)
   | (with_reducible refine LeO.ite ?_ ?_)
   | (with_reducible refine LeO.bind ?_ (fun _ => ?_))
   | exact LeO.none _
   | refine LeO.ite ?_ ?_
   | refine LeO.bind ?_ (fun _ => ?_)
theorem impl_rankOf.calls (k : Nat) (A0 : Option Addr) (c0 : Nat) (l0 : List Int) (r : Int) (w : World) (hr0 : Kd.C (Kd.int .i64) w A0 l0.length l0) (hc0 : l0.length ≤ c0) (h : impl_rankOf.f k l0 = some r) :
  Calls Try.prog 44 #[.slice A0 l0.length c0] w fun e w' => e = .returned (.int .i64 r) ∧ Below w.heap.size w w' := by
 have HR0 := Aside0.mk hr0
 have HC0 := Aside0.mk hc0
 clear hr0 hc0
 have HB := Aside0.mk (Below.refl w.heap.size w)
 have H : ((impl_systems.f k (wrap64 ((l0.length : Int) / 2))).bind fun t437 => ((slices_BinarySearchFunc_int_int_int.f k t437 l0).bind fun bt440 => (some bt440.1))) = some r := h
 clear h
 replace H := Option.bind_eq_some_iff.mp H
 obtain ⟨t437, A20, H⟩ := H
 replace H : ((slices_BinarySearchFunc_int_int_int.f k t437 l0).bind fun bt440 => (some bt440.1)) = some r := H
 have A2 := Aside0.mk A20
 clear A20
 replace H := Option.bind_eq_some_iff.mp H
 obtain ⟨⟨t440, t441⟩, A30, H⟩ := H
 replace H : (some t440) = some r := H
 have A3 := Aside0.mk A30
 clear A30
 obtain rfl := Option.some.inj H
 go_enter Try.func44, Try.ntmps44
 go_wp2_with (first | ((with_reducible refine gate_callee (f := 32) rfl ?_); refine goesL_ (some 9) rfl rfl Try.func32 (by kernel_rfl) rfl #[.int .i64 (wrap64 ((l0.length : Int) / 2))] rfl (by (try simp only [List.map_toArray, List.map_cons, List.map_nil]); first | done | rfl) ?_; (with_reducible refine (impl_systems.calls k (wrap64 ((l0.length : Int) / 2)) t437 _ A2.out).mono ?_); rintro e w4 ⟨v438, rfl, ho0, hb⟩; refine ⟨_, rfl, ?_⟩; have HO439 := Aside0.mk (Kd.S_lower ho0 (below_size (by repeat (first | exact HB.out | apply bA | apply bN | apply bD)))); replace HB := Aside0.mk (below_step (by repeat (first | exact HB.out | apply bA | apply bN | apply bD)) hb); (try clear hb2); (try clear hb hk hi); (try clear ho0); obtain ⟨Ao5, co5, eo5⟩ := Kd.S_slice HO439.out; subst eo5) | ((with_reducible refine gate_callee (f := 53) rfl ?_); refine goesL_ (some 11) rfl rfl Try.func53 (by kernel_rfl) rfl #[.slice Ao5 t437.length co5, .slice A0 l0.length c0, .func (.func 51) #[] #[]] rfl (by (try simp only [List.map_toArray, List.map_cons, List.map_nil]); first | done | rfl) ?_; (with_reducible refine (slices_BinarySearchFunc_int_int_int.calls k _ _ t437 _ _ l0 t440 t441 _ ?side1 ?side2 ?side3 ?side4 A3.out).mono ?_); (case side1 => repeat (first | exact (Kd.S_reads' HO439.out).2.2 | (with_reducible refine Kd.C_alloc ?_ _) | (with_reducible refine Kd.C_drewN ?_ _) | (with_reducible refine Kd.C_drew ?_))); (case side2 => exact (Kd.S_reads' HO439.out).2.1); (case side3 => repeat (first | exact (Kd.C_below HR0.out HB.out) | (with_reducible refine Kd.C_alloc ?_ _) | (with_reducible refine Kd.C_drewN ?_ _) | (with_reducible refine Kd.C_drew ?_))); (case side4 => exact HC0.out); rintro e w' ⟨rfl, ⟨nd, rfl⟩⟩; refine ⟨_, rfl, ?_⟩))
 go_ret
 exact ⟨by first | rfl | (simp [*, errW_none, errW_some] <;> rfl), by repeat (first | exact HB.out | apply bA | apply bN | apply bD)⟩

end Go.Proofs.Ytpbadjdeghmenaa.QFnSystemsListed
