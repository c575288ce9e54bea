-- Written by wip/myprint.py (a program of mine round the kit's printer). Lean checks it.
import Derived.Test.YtlbaldejaapbiaaQFnExactStatesAfterx0
import Derived.Test.YtlbaldejaapbiaaQFnExactStatesAfterx1
import Derived.Test.YtlbaldejaapbiaaQFnExactStatesAfterx2
namespace Go.Proofs.Ytlbaldejaapbiaa.QFnExactStatesAfter
open Go.RowKit Go.Proofs.YtlbaldejaapbiaaW.PrintWords Go.Proofs.YtlbaldejaapbiaaW.PrintLast Go.Proofs.YtlbaldejaapbiaaW.PrintMore
attribute [local go_sem] max2_int min2_int max_two min_two max_three min_three max_four min_four
set_option linter.unusedVariables false
set_option linter.unusedSimpArgs false
set_option maxHeartbeats 8000000
set_option maxRecDepth 100000
mutual
def spec_stGood.j0 : Nat → Bool → List Int → List Int → Int → Option (Bool)
 | 0, _, _, _, _ => none
 | k + 1, x24, x143000, x143001, x143002 => if x24 = true then (some false) else ((spec_l1All.f k x143000 0 6).bind fun t144 => (if t144 = true then ((spec_l1All.f k x143001 0 6).bind fun t145 => (spec_stGood.j1 k (!t145) x143000 x143001 x143002)) else (spec_stGood.j1 k true x143000 x143001 x143002)))
def spec_stGood.j1 : Nat → Bool → List Int → List Int → Int → Option (Bool)
 | 0, _, _, _, _ => none
 | k + 1, x34, x143000, x143001, x143002 => if x34 = true then (some false) else ((spec_stRename.f k x143000 x143001).bind fun bt146 => ((spec_l1Same.f k bt146.1 x143000).bind fun t152 => (if t152 = true then ((spec_l1Same.f k bt146.2 x143001).bind fun t153 => (spec_stGood.j2 k (!t153) x143000 x143001 x143002)) else (spec_stGood.j2 k true x143000 x143001 x143002))))
def spec_stGood.j2 : Nat → Bool → List Int → List Int → Int → Option (Bool)
 | 0, _, _, _, _ => none
 | k + 1, x54, x143000, x143001, x143002 => if x54 = true then (some false) else ((spec_stAround.f k x143000 x143001 x143002).bind fun t154 => (spec_stGood.l0 k ([] : List Int) ([] : List Int) t154 (t154.length : Int) 0))
def spec_stGood.l0 : Nat → List Int → List Int → List Int → Int → Int → Option (Bool)
 | 0, _, _, _, _, _ => none
 | k + 1, x5, x6, x56, x57, x58 => if x58 < x57 then (if 0 ≤ x58 then (if x58 < (x56.length : Int) then ((spec_l1Has.f k x6 (rd x56 x58)).bind fun t158 => (if t158 = true then (some false) else ((spec_l1Has.f k x5 (rd x56 x58)).bind fun t159 => (if t159 = true then (if 0 ≤ (wrap64 ((x5.length : Int) - 1)) then (if (wrap64 ((x5.length : Int) - 1)) < (x5.length : Int) then (if (rd x5 (wrap64 ((x5.length : Int) - 1))) = (rd x56 x58) then (if (wrap64 ((x5.length : Int) - 1)) ≤ (x5.length : Int) then (if x6.length < 17592186044416 then (spec_stGood.l0 k (x5.take ((wrap64 ((x5.length : Int) - 1)) : Int).toNat) (x6 ++ [rd x56 x58]) x56 x57 (wrap64 (x58 + 1))) else (none)) else (none)) else (some false)) else (none)) else (none)) else (if x5.length < 17592186044416 then (spec_stGood.l0 k (x5 ++ [rd x56 x58]) x6 x56 x57 (wrap64 (x58 + 1))) else (none)))))) else (none)) else (none)) else (some ((x5.length : Int) == 0))
end
def spec_stGood.f (k : Nat) (l0_0 : List Int) (l0_1 : List Int) (a0_2 : Int) : Option (Bool) := if (l0_0.length : Int) > 6 then (spec_stGood.j0 k true l0_0 l0_1 a0_2) else (if (l0_1.length : Int) > 6 then (spec_stGood.j0 k true l0_0 l0_1 a0_2) else ((spec_l1In.f a0_2 0 6).bind fun t143 => (spec_stGood.j0 k (!t143) l0_0 l0_1 a0_2)))
theorem spec_stGood.mono_l : ∀ k, (∀ y0 y1 y2 y3, LeO (spec_stGood.j0 k y0 y1 y2 y3) (spec_stGood.j0 (k + 1) y0 y1 y2 y3)) ∧ (∀ y0 y1 y2 y3, LeO (spec_stGood.j1 k y0 y1 y2 y3) (spec_stGood.j1 (k + 1) y0 y1 y2 y3)) ∧ (∀ y0 y1 y2 y3, LeO (spec_stGood.j2 k y0 y1 y2 y3) (spec_stGood.j2 (k + 1) y0 y1 y2 y3)) ∧ (∀ y0 y1 y2 y3 y4, LeO (spec_stGood.l0 k y0 y1 y2 y3 y4) (spec_stGood.l0 (k + 1) y0 y1 y2 y3 y4))
 | 0 => ⟨fun _ _ _ _ r h => by simp [spec_stGood.j0] at h, fun _ _ _ _ r h => by simp [spec_stGood.j1] at h, fun _ _ _ _ r h => by simp [spec_stGood.j2] at h, fun _ _ _ _ _ r h => by simp [spec_stGood.l0] at h⟩
 | k + 1 => by
  obtain ⟨ih0, ih1, ih2, ih3⟩ := spec_stGood.mono_l k
  refine ⟨?_, ?_, ?_, ?_⟩
  ·intro y0 y1 y2 y3
   unfold spec_stGood.j0
   repeat' first
    | (with_reducible first | exact ih0 _ _ _ _ | exact ih1 _ _ _ _ | exact ih2 _ _ _ _ | exact ih3 _ _ _ _ _ | exact spec_l1All.mono _ _ _ _ | exact spec_l1Has.mono _ _ _ | exact spec_l1Same.mono _ _ _ | exact spec_stAround.mono _ _ _ _ | exact spec_stRename.mono _ _ _ | exact LeO.refl _ | exact LeO.none _ | refine LeO.ite ?_ ?_ | refine LeO.bind ?_ (fun _ => ?_))
    | exact LeO.none _
    | refine LeO.ite ?_ ?_
    | refine LeO.bind ?_ (fun _ => ?_)
  ·intro y0 y1 y2 y3
   unfold spec_stGood.j1
   repeat' first
    | (with_reducible first | exact ih0 _ _ _ _ | exact ih1 _ _ _ _ | exact ih2 _ _ _ _ | exact ih3 _ _ _ _ _ | exact spec_l1All.mono _ _ _ _ | exact spec_l1Has.mono _ _ _ | exact spec_l1Same.mono _ _ _ | exact spec_stAround.mono _ _ _ _ | exact spec_stRename.mono _ _ _ | exact LeO.refl _ | exact LeO.none _ | refine LeO.ite ?_ ?_ | refine LeO.bind ?_ (fun _ => ?_))
    | exact LeO.none _
    | refine LeO.ite ?_ ?_
    | refine LeO.bind ?_ (fun _ => ?_)
  ·intro y0 y1 y2 y3
   unfold spec_stGood.j2
   repeat' first
    | (with_reducible first | exact ih0 _ _ _ _ | exact ih1 _ _ _ _ | exact ih2 _ _ _ _ | exact ih3 _ _ _ _ _ | exact spec_l1All.mono _ _ _ _ | exact spec_l1Has.mono _ _ _ | exact spec_l1Same.mono _ _ _ | exact spec_stAround.mono _ _ _ _ | exact spec_stRename.mono _ _ _ | exact LeO.refl _ | exact LeO.none _ | refine LeO.ite ?_ ?_ | refine LeO.bind ?_ (fun _ => ?_))
    | exact LeO.none _
    | refine LeO.ite ?_ ?_
    | refine LeO.bind ?_ (fun _ => ?_)
  ·intro y0 y1 y2 y3 y4
   unfold spec_stGood.l0
   repeat' first
    | (with_reducible first | exact ih0 _ _ _ _ | exact ih1 _ _ _ _ | exact ih2 _ _ _ _ | exact ih3 _ _ _ _ _ | exact spec_l1All.mono _ _ _ _ | exact spec_l1Has.mono _ _ _ | exact spec_l1Same.mono _ _ _ | exact spec_stAround.mono _ _ _ _ | exact spec_stRename.mono _ _ _ | exact LeO.refl _ | exact LeO.none _ | refine LeO.ite ?_ ?_ | refine LeO.bind ?_ (fun _ => ?_))
    | exact LeO.none _
    | refine LeO.ite ?_ ?_
    | refine LeO.bind ?_ (fun _ => ?_)
theorem spec_stGood.mono : ∀ a0 a1 a2 k, LeO (spec_stGood.f k a0 a1 a2) (spec_stGood.f (k + 1) a0 a1 a2) := by
 intro a0 a1 a2 k
 obtain ⟨ih0, ih1, ih2, ih3⟩ := spec_stGood.mono_l k
 unfold spec_stGood.f
 repeat' first
  | (with_reducible first | exact ih0 _ _ _ _ | exact ih1 _ _ _ _ | exact ih2 _ _ _ _ | exact ih3 _ _ _ _ _ | exact spec_l1All.mono _ _ _ _ | exact spec_l1Has.mono _ _ _ | exact spec_l1Same.mono _ _ _ | exact spec_stAround.mono _ _ _ _ | exact spec_stRename.mono _ _ _ | exact LeO.refl _ | exact LeO.none _ | refine LeO.ite ?_ ?_ | refine LeO.bind ?_ (fun _ => ?_))
  | exact LeO.none _
  | refine LeO.ite ?_ ?_
  | refine LeO.bind ?_ (fun _ => ?_)
theorem spec_stGood.calls (k : Nat) (A0_0 : Option Addr) (c0_0 : Nat) (l0_0 : List Int) (A0_1 : Option Addr) (c0_1 : Nat) (l0_1 : List Int) (a0_2 : Int) (r : Bool) (w : World) (hr0_0 : Kd.C (Kd.int .i64) w A0_0 l0_0.length l0_0) (hc0_0 : l0_0.length ≤ c0_0) (hr0_1 : Kd.C (Kd.int .i64) w A0_1 l0_1.length l0_1) (hc0_1 : l0_1.length ≤ c0_1) (h : spec_stGood.f k l0_0 l0_1 a0_2 = some r) :
 Calls Try.prog 37 #[.agg #[.slice A0_0 l0_0.length c0_0, .slice A0_1 l0_1.length c0_1, .int .i64 a0_2]] w fun e w' => e = .returned (.bool r) ∧ Below w.heap.size w w' := by
 have hu27 := Try.underlying27
 have HR0_0 := am hr0_0
 have HC0_0 := am hc0_0
 clear hr0_0 hc0_0
 have HR0_1 := am hr0_1
 have HC0_1 := am hc0_1
 clear hr0_1 hc0_1
 have HB := am (Below.refl w.heap.size w)
 have H : (if (l0_0.length : Int) > 6 then (spec_stGood.j0 k true l0_0 l0_1 a0_2) else (if (l0_1.length : Int) > 6 then (spec_stGood.j0 k true l0_0 l0_1 a0_2) else ((spec_l1In.f a0_2 0 6).bind fun t143 => (spec_stGood.j0 k (!t143) l0_0 l0_1 a0_2)))) = some r := h
 clear h
 have HC2 := am H
 clear H
 go_enter Try.func37, Try.ntmps37
 go_upto_region 1 with (first | ((with_reducible refine gate_dst (N := 1) rfl ?_); (try (refine gate_guard (by rfl) ?_; dsimp only)); refine box_event ?hg (N := 1) ?hd (cs := #[.slice A0_0 l0_0.length c0_0, .slice A0_1 l0_1.length c0_1, .int .i64 a0_2]) (t := 27) ?hr ?_; (case hd => rfl); (case hg => rfl); (case hr => first | (go_simp; done) | (go_simp; rfl)); intro gb142 hg w3 hbox hb; have BK142 := am (hbox); have GW142 := am ((by rw [hg]; exact (below_size (by repeat (with_reducible first | exact HB.out | apply bA | apply bN | apply bD))) : w.heap.size ≤ gb142)); have GE142 := am ((by rw [hg]; exact (below_size (by repeat (with_reducible first | exact HB.out | apply bA | apply bN | apply bD))) : w.heap.size ≤ gb142)); replace HB := am (below_step (by repeat (with_reducible first | exact HB.out | apply bA | apply bN | apply bD)) hb); clear hb hbox hg))
 (try simp only [Act.put, sI, s0_, s1_])
 go_cut [24] (fun v24 wc => ∃ (kq : Nat) (x24_1 : Bool), v24 = .bool x24_1 ∧ Aside0 (spec_stGood.j0 kq x24_1 l0_0 l0_1 a0_2 = some r) ∧ Aside0 (kq ≤ k) ∧ Aside0 (wc.heap[gb142]? = some (.cells #[(.slice A0_0 l0_0.length c0_0), (.slice A0_1 l0_1.length c0_1), .int .i64 a0_2] 27 (0, 0))) ∧ Aside0 (Below w.heap.size w wc))
 case first =>
  have H := HC2.out
  clear HC2
  by_cases c4 : (l0_0.length : Int) > 6
  ·rw [if_pos c4] at H
   have c4b0 : decide (6 < (l0_0.length : Int)) = true := decide_eq_true c4
   have c4b1 : decide (6 < l0_0.length) = true := decide_eq_true (by omega)
   clear c4
   (first | rw [c4b0] | (simp only [i64_w, i32_w]; rw [c4b0]) | skip)
   have H' := am H
   clear H
   have hcz5_0 : w3.cell? ⟨gb142, 0, none⟩ = some (.slice A0_0 l0_0.length c0_0) := (blk_cell BK142.out 0).trans rfl
   have hcz5_1 : w3.cell? ⟨gb142, 1, none⟩ = some (.slice A0_1 l0_1.length c0_1) := (blk_cell BK142.out 1).trans rfl
   have hcz5_2 : w3.cell? ⟨gb142, 2, none⟩ = some (.int .i64 a0_2) := (blk_cell BK142.out 2).trans rfl
   have hfz5_0 := blk_frozen BK142.out 0
   have hfz5_1 := blk_frozen BK142.out 1
   have hfz5_2 := blk_frozen BK142.out 2
   go_wp2
   go_meet
   case rel => exact ⟨_, (true), (by first | rfl | (simp; done) | (simp [*]; done)), H', ⟨by first | omega | exact Nat.le_refl _⟩, ⟨by (with_reducible repeat (first | apply kB | apply kC | apply kE)); exact BK142.out⟩, ⟨by repeat (with_reducible first | exact HB.out | apply bA | apply bN | apply bD | refine bS ?_ GE142.out)⟩⟩
  ·rw [if_neg c4] at H
   have c4b0 : decide (6 < (l0_0.length : Int)) = false := decide_eq_false c4
   have c4b1 : decide (6 < l0_0.length) = false := decide_eq_false (by omega)
   clear c4
   (first | rw [c4b0] | (simp only [i64_w, i32_w]; rw [c4b0]) | skip)
   by_cases c6 : (l0_1.length : Int) > 6
   ·rw [if_pos c6] at H
    have c6b0 : decide (6 < (l0_1.length : Int)) = true := decide_eq_true c6
    have c6b1 : decide (6 < l0_1.length) = true := decide_eq_true (by omega)
    clear c6
    have H' := am H
    clear H
    have hcz7_0 : w3.cell? ⟨gb142, 0, none⟩ = some (.slice A0_0 l0_0.length c0_0) := (blk_cell BK142.out 0).trans rfl
    have hcz7_1 : w3.cell? ⟨gb142, 1, none⟩ = some (.slice A0_1 l0_1.length c0_1) := (blk_cell BK142.out 1).trans rfl
    have hcz7_2 : w3.cell? ⟨gb142, 2, none⟩ = some (.int .i64 a0_2) := (blk_cell BK142.out 2).trans rfl
    have hfz7_0 := blk_frozen BK142.out 0
    have hfz7_1 := blk_frozen BK142.out 1
    have hfz7_2 := blk_frozen BK142.out 2
    go_wp2
    go_meet
    case rel => exact ⟨_, (true), (by first | rfl | (simp; done) | (simp [*]; done)), H', ⟨by first | omega | exact Nat.le_refl _⟩, ⟨by (with_reducible repeat (first | apply kB | apply kC | apply kE)); exact BK142.out⟩, ⟨by repeat (with_reducible first | exact HB.out | apply bA | apply bN | apply bD | refine bS ?_ GE142.out)⟩⟩
   ·rw [if_neg c6] at H
    have c6b0 : decide (6 < (l0_1.length : Int)) = false := decide_eq_false c6
    have c6b1 : decide (6 < l0_1.length) = false := decide_eq_false (by omega)
    clear c6
    replace H := Option.bind_eq_some_iff.mp H
    obtain ⟨t143, A80, H⟩ := H
    replace H : (spec_stGood.j0 k (!t143) l0_0 l0_1 a0_2) = some r := H
    have A8 := am A80
    clear A80
    have H' := am H
    clear H
    have hcz9_0 : w3.cell? ⟨gb142, 0, none⟩ = some (.slice A0_0 l0_0.length c0_0) := (blk_cell BK142.out 0).trans rfl
    have hcz9_1 : w3.cell? ⟨gb142, 1, none⟩ = some (.slice A0_1 l0_1.length c0_1) := (blk_cell BK142.out 1).trans rfl
    have hcz9_2 : w3.cell? ⟨gb142, 2, none⟩ = some (.int .i64 a0_2) := (blk_cell BK142.out 2).trans rfl
    have hfz9_0 := blk_frozen BK142.out 0
    have hfz9_1 := blk_frozen BK142.out 1
    have hfz9_2 := blk_frozen BK142.out 2
    go_wp2_with (first | (go_at_call 52; (with_reducible refine (spec_l1In.calls a0_2 0 6 t143 _ A8.out).mono ?_); rintro e w' ⟨rfl, ⟨nd, rfl⟩⟩))
    go_meet
    case rel => exact ⟨_, (!t143), (by first | rfl | (simp; done) | (simp [*]; done)), H', ⟨by first | omega | exact Nat.le_refl _⟩, ⟨by (with_reducible repeat (first | apply kB | apply kC | apply kE)); exact BK142.out⟩, ⟨by repeat (with_reducible first | exact HB.out | apply bA | apply bN | apply bD | refine bS ?_ GE142.out)⟩⟩
 case rest =>
  clear HC2
  try clear p2
  try clear hcz5_0
  try clear hcz5_1
  try clear hcz5_2
  try clear hcz7_0
  try clear hcz7_1
  try clear hcz7_2
  try clear hcz9_0
  try clear hcz9_1
  try clear hcz9_2
  try clear hfz5_0
  try clear hfz5_1
  try clear hfz5_2
  try clear hfz7_0
  try clear hfz7_1
  try clear hfz7_2
  try clear hfz9_0
  try clear hfz9_1
  try clear hfz9_2
  obtain ⟨kq, x24_1, rfl, HA, HJ1, BK142, HB⟩ := hcut
  cases kq with
  | zero => exact absurd HA.out (by simp [spec_stGood.j0])
  | succ kj1 =>
   have H := HA.out
   clear HA
   simp only [spec_stGood.j0] at H
   by_cases c10 : x24_1 = true
   ·subst c10
    have H1 : (some false) = some r := by rw [if_pos rfl] at H; exact H
    clear H
    have H := H1
    clear H1
    obtain rfl := Option.some.inj H
    go_wp2
    go_ret
    exact ⟨by first | rfl | (simp [*, errW_none, errW_some] <;> rfl), by repeat (with_reducible first | exact HB.out | apply bA | apply bN | apply bD | refine bS ?_ GE142.out)⟩
   ·replace c10 := Bool.eq_false_iff.mpr c10
    subst c10
    have H1 : ((spec_l1All.f kj1 l0_0 0 6).bind fun t144 => (if t144 = true then ((spec_l1All.f kj1 l0_1 0 6).bind fun t145 => (spec_stGood.j1 kj1 (!t145) l0_0 l0_1 a0_2)) else (spec_stGood.j1 kj1 true l0_0 l0_1 a0_2))) = some r := by rw [if_neg (show ¬ (false = true) by decide)] at H; exact H
    clear H
    have H := H1
    clear H1
    have HC11 := am H
    clear H
    go_upto_region 3 with (fail)
    go_cut [34] (fun v34 wc => ∃ (kq : Nat) (x34_10 : Bool), v34 = .bool x34_10 ∧ Aside0 (spec_stGood.j1 kq x34_10 l0_0 l0_1 a0_2 = some r) ∧ Aside0 (kq ≤ kj1) ∧ Aside0 (wc.heap[gb142]? = some (.cells #[(.slice A0_0 l0_0.length c0_0), (.slice A0_1 l0_1.length c0_1), .int .i64 a0_2] 27 (0, 0))) ∧ Aside0 (Below w.heap.size w wc))
    case first =>
     have H := HC11.out
     clear HC11
     replace H := Option.bind_eq_some_iff.mp H
     obtain ⟨t144, A120, H⟩ := H
     replace H : (if t144 = true then ((spec_l1All.f kj1 l0_1 0 6).bind fun t145 => (spec_stGood.j1 kj1 (!t145) l0_0 l0_1 a0_2)) else (spec_stGood.j1 kj1 true l0_0 l0_1 a0_2)) = some r := H
     have A12 := am A120
     clear A120
     by_cases c13 : t144 = true
     ·subst c13
      have H1 : ((spec_l1All.f kj1 l0_1 0 6).bind fun t145 => (spec_stGood.j1 kj1 (!t145) l0_0 l0_1 a0_2)) = some r := by rw [if_pos rfl] at H; exact H
      clear H
      have H := H1
      clear H1
      replace H := Option.bind_eq_some_iff.mp H
      obtain ⟨t145, A140, H⟩ := H
      replace H : (spec_stGood.j1 kj1 (!t145) l0_0 l0_1 a0_2) = some r := H
      have A14 := am A140
      clear A140
      have H' := am H
      clear H
      have hcz15_0 : wc.cell? ⟨gb142, 0, none⟩ = some (.slice A0_0 l0_0.length c0_0) := (blk_cell BK142.out 0).trans rfl
      have hcz15_1 : wc.cell? ⟨gb142, 1, none⟩ = some (.slice A0_1 l0_1.length c0_1) := (blk_cell BK142.out 1).trans rfl
      have hcz15_2 : wc.cell? ⟨gb142, 2, none⟩ = some (.int .i64 a0_2) := (blk_cell BK142.out 2).trans rfl
      have hfz15_0 := blk_frozen BK142.out 0
      have hfz15_1 := blk_frozen BK142.out 1
      have hfz15_2 := blk_frozen BK142.out 2
      go_wp2_with (first | ((with_reducible refine gate_callee (f := 62) rfl ?_); refine goesL_ (some 27) rfl rfl Try.func62 (by kernel_rfl) rfl #[.slice A0_0 l0_0.length c0_0, .int .i64 0, .int .i64 6] rfl (by (try simp only [mT, mC, mZ]); first | done | rfl) ?_; (with_reducible refine (spec_l1All.calls kj1 _ _ l0_0 0 6 true _ ?side1 ?side2 A12.out).mono ?_); (case side1 => repeat (first | exact (Kd.C_below HR0_0.out HB.out) | (with_reducible first | apply cA | apply cN | apply cD))); (case side2 => exact HC0_0.out); rintro e w' ⟨rfl, ⟨nd, rfl⟩⟩; refine ⟨_, rfl, ?_⟩) | (go_at_call 62; (with_reducible refine (spec_l1All.calls kj1 _ _ l0_1 0 6 t145 _ ?side1 ?side2 A14.out).mono ?_); (case side1 => repeat (first | exact (Kd.C_below HR0_1.out (by repeat (with_reducible first | exact HB.out | apply bA | apply bN | apply bD | refine bS ?_ GE142.out))) | (with_reducible first | apply cA | apply cN | apply cD))); (case side2 => exact HC0_1.out); rintro e w' ⟨rfl, ⟨nd, rfl⟩⟩))
      go_meet
      case rel => exact ⟨_, (!t145), (by first | rfl | (simp; done) | (simp [*]; done)), H', ⟨by have := HJ1.out; first | omega | exact Nat.le_refl _⟩, ⟨by (with_reducible repeat (first | apply kB | apply kC | apply kE)); exact BK142.out⟩, ⟨by repeat (with_reducible first | exact HB.out | apply bA | apply bN | apply bD | refine bS ?_ GE142.out)⟩⟩
     ·replace c13 := Bool.eq_false_iff.mpr c13
      subst c13
      have H1 : (spec_stGood.j1 kj1 true l0_0 l0_1 a0_2) = some r := by rw [if_neg (show ¬ (false = true) by decide)] at H; exact H
      clear H
      have H := H1
      clear H1
      have H' := am H
      clear H
      have hcz16_0 : wc.cell? ⟨gb142, 0, none⟩ = some (.slice A0_0 l0_0.length c0_0) := (blk_cell BK142.out 0).trans rfl
      have hcz16_1 : wc.cell? ⟨gb142, 1, none⟩ = some (.slice A0_1 l0_1.length c0_1) := (blk_cell BK142.out 1).trans rfl
      have hcz16_2 : wc.cell? ⟨gb142, 2, none⟩ = some (.int .i64 a0_2) := (blk_cell BK142.out 2).trans rfl
      have hfz16_0 := blk_frozen BK142.out 0
      have hfz16_1 := blk_frozen BK142.out 1
      have hfz16_2 := blk_frozen BK142.out 2
      go_wp2_with (first | ((with_reducible refine gate_callee (f := 62) rfl ?_); refine goesL_ (some 27) rfl rfl Try.func62 (by kernel_rfl) rfl #[.slice A0_0 l0_0.length c0_0, .int .i64 0, .int .i64 6] rfl (by (try simp only [mT, mC, mZ]); first | done | rfl) ?_; (with_reducible refine (spec_l1All.calls kj1 _ _ l0_0 0 6 false _ ?side1 ?side2 A12.out).mono ?_); (case side1 => repeat (first | exact (Kd.C_below HR0_0.out HB.out) | (with_reducible first | apply cA | apply cN | apply cD))); (case side2 => exact HC0_0.out); rintro e w' ⟨rfl, ⟨nd, rfl⟩⟩; refine ⟨_, rfl, ?_⟩))
      go_meet
      case rel => exact ⟨_, (true), (by first | rfl | (simp; done) | (simp [*]; done)), H', ⟨by have := HJ1.out; first | omega | exact Nat.le_refl _⟩, ⟨by (with_reducible repeat (first | apply kB | apply kC | apply kE)); exact BK142.out⟩, ⟨by repeat (with_reducible first | exact HB.out | apply bA | apply bN | apply bD | refine bS ?_ GE142.out)⟩⟩
    case rest =>
     clear HC11
     try clear p2
     try clear hcz15_0
     try clear hcz15_1
     try clear hcz15_2
     try clear hcz16_0
     try clear hcz16_1
     try clear hcz16_2
     try clear hcz5_0
     try clear hcz5_1
     try clear hcz5_2
     try clear hcz7_0
     try clear hcz7_1
     try clear hcz7_2
     try clear hcz9_0
     try clear hcz9_1
     try clear hcz9_2
     try clear hfz15_0
     try clear hfz15_1
     try clear hfz15_2
     try clear hfz16_0
     try clear hfz16_1
     try clear hfz16_2
     try clear hfz5_0
     try clear hfz5_1
     try clear hfz5_2
     try clear hfz7_0
     try clear hfz7_1
     try clear hfz7_2
     try clear hfz9_0
     try clear hfz9_1
     try clear hfz9_2
     try clear p2
     obtain ⟨kq, x34_10, rfl, HA, HJ10, BK142, HB⟩ := hcut
     cases kq with
     | zero => exact absurd HA.out (by simp [spec_stGood.j1])
     | succ kj10 =>
      have H := HA.out
      clear HA
      simp only [spec_stGood.j1] at H
      by_cases c17 : x34_10 = true
      ·subst c17
       have H1 : (some false) = some r := by rw [if_pos rfl] at H; exact H
       clear H
       have H := H1
       clear H1
       obtain rfl := Option.some.inj H
       go_wp2
       go_ret
       exact ⟨by first | rfl | (simp [*, errW_none, errW_some] <;> rfl), by repeat (with_reducible first | exact HB.out | apply bA | apply bN | apply bD | refine bS ?_ GE142.out)⟩
      ·replace c17 := Bool.eq_false_iff.mpr c17
       subst c17
       have H1 : ((spec_stRename.f kj10 l0_0 l0_1).bind fun bt146 => ((spec_l1Same.f kj10 bt146.1 l0_0).bind fun t152 => (if t152 = true then ((spec_l1Same.f kj10 bt146.2 l0_1).bind fun t153 => (spec_stGood.j2 kj10 (!t153) l0_0 l0_1 a0_2)) else (spec_stGood.j2 kj10 true l0_0 l0_1 a0_2)))) = some r := by rw [if_neg (show ¬ (false = true) by decide)] at H; exact H
       clear H
       have H := H1
       clear H1
       replace H := Option.bind_eq_some_iff.mp H
       obtain ⟨⟨t146, t147⟩, A180, H⟩ := H
       replace H : ((spec_l1Same.f kj10 t146 l0_0).bind fun t152 => (if t152 = true then ((spec_l1Same.f kj10 t147 l0_1).bind fun t153 => (spec_stGood.j2 kj10 (!t153) l0_0 l0_1 a0_2)) else (spec_stGood.j2 kj10 true l0_0 l0_1 a0_2))) = some r := H
       have A18 := am A180
       clear A180
       have HC19 := am H
       clear H
       have hcz20_0 : wc.cell? ⟨gb142, 0, none⟩ = some (.slice A0_0 l0_0.length c0_0) := (blk_cell BK142.out 0).trans rfl
       have hcz20_1 : wc.cell? ⟨gb142, 1, none⟩ = some (.slice A0_1 l0_1.length c0_1) := (blk_cell BK142.out 1).trans rfl
       have hcz20_2 : wc.cell? ⟨gb142, 2, none⟩ = some (.int .i64 a0_2) := (blk_cell BK142.out 2).trans rfl
       have hfz20_0 := blk_frozen BK142.out 0
       have hfz20_1 := blk_frozen BK142.out 1
       have hfz20_2 := blk_frozen BK142.out 2
       go_upto_region 6 with (first | ((with_reducible refine gate_callee (f := 48) rfl ?_); refine goesL_ (some 40) rfl rfl Try.func48 (by kernel_rfl) rfl #[.slice A0_0 l0_0.length c0_0, .slice A0_1 l0_1.length c0_1] rfl (by (try simp only [mT, mC, mZ]); first | done | rfl) ?_; (with_reducible refine (spec_stRename.calls kj10 _ _ l0_0 _ _ l0_1 t146 t147 _ ?side1 ?side2 ?side3 ?side4 A18.out).mono ?_); (case side1 => repeat (first | exact (Kd.C_below HR0_0.out HB.out) | (with_reducible first | apply cA | apply cN | apply cD))); (case side2 => exact HC0_0.out); (case side3 => repeat (first | exact (Kd.C_below HR0_1.out HB.out) | (with_reducible first | apply cA | apply cN | apply cD))); (case side4 => exact HC0_1.out); rintro e w21 ⟨v148, v150, rfl, ho0, ho1, hb⟩; refine ⟨_, rfl, ?_⟩; have HO149 := am (Kd.R_lower ho0 (below_size (by repeat (with_reducible first | exact HB.out | apply bA | apply bN | apply bD | refine bS ?_ GE142.out)))); have HO151 := am (Kd.R_lower ho1 (below_size (by repeat (with_reducible first | exact HB.out | apply bA | apply bN | apply bD | refine bS ?_ GE142.out)))); replace BK142 := am (blk_below (g := gb142) (by (with_reducible repeat (first | apply kB | apply kC | apply kE)); exact BK142.out) hb); replace HB := am (below_step (by repeat (with_reducible first | exact HB.out | apply bA | apply bN | apply bD | refine bS ?_ GE142.out)) hb); (try clear hb); (try clear hb2); (try clear hk); (try clear hi); (try clear ho0); (try clear ho1)))
       (try simp only [Act.put, sI, s0_, s1_])
       go_cut [54] (fun v54 wc => ∃ (kq : Nat) (x54_18 : Bool), v54 = .bool x54_18 ∧ Aside0 (spec_stGood.j2 kq x54_18 l0_0 l0_1 a0_2 = some r) ∧ Aside0 (kq ≤ kj10) ∧ Aside0 (wc.heap[gb142]? = some (.cells #[(.slice A0_0 l0_0.length c0_0), (.slice A0_1 l0_1.length c0_1), .int .i64 a0_2] 27 (0, 0))) ∧ Aside0 (Below w.heap.size w wc))
       case first =>
        have H := HC19.out
        clear HC19
        replace H := Option.bind_eq_some_iff.mp H
        obtain ⟨t152, A220, H⟩ := H
        replace H : (if t152 = true then ((spec_l1Same.f kj10 t147 l0_1).bind fun t153 => (spec_stGood.j2 kj10 (!t153) l0_0 l0_1 a0_2)) else (spec_stGood.j2 kj10 true l0_0 l0_1 a0_2)) = some r := H
        have A22 := am A220
        clear A220
        by_cases c23 : t152 = true
        ·subst c23
         have H1 : ((spec_l1Same.f kj10 t147 l0_1).bind fun t153 => (spec_stGood.j2 kj10 (!t153) l0_0 l0_1 a0_2)) = some r := by rw [if_pos rfl] at H; exact H
         clear H
         have H := H1
         clear H1
         replace H := Option.bind_eq_some_iff.mp H
         obtain ⟨t153, A240, H⟩ := H
         replace H : (spec_stGood.j2 kj10 (!t153) l0_0 l0_1 a0_2) = some r := H
         have A24 := am A240
         clear A240
         have H' := am H
         clear H
         have hcz25_0 : w21.cell? ⟨gb142, 0, none⟩ = some (.slice A0_0 l0_0.length c0_0) := (blk_cell BK142.out 0).trans rfl
         have hcz25_1 : w21.cell? ⟨gb142, 1, none⟩ = some (.slice A0_1 l0_1.length c0_1) := (blk_cell BK142.out 1).trans rfl
         have hcz25_2 : w21.cell? ⟨gb142, 2, none⟩ = some (.int .i64 a0_2) := (blk_cell BK142.out 2).trans rfl
         have hfz25_0 := blk_frozen BK142.out 0
         have hfz25_1 := blk_frozen BK142.out 1
         have hfz25_2 := blk_frozen BK142.out 2
         obtain ⟨Ao26, co26, eo26⟩ := Kd.R_slice HO149.out
         subst eo26
         go_wp2_with (first | ((with_reducible refine gate_callee (f := 63) rfl ?_); refine goesL_ (some 46) rfl rfl Try.func63 (by kernel_rfl) rfl #[.slice Ao26 t146.length co26, .slice A0_0 l0_0.length c0_0] rfl (by (try simp only [mT, mC, mZ]); first | done | rfl) ?_; (with_reducible refine (spec_l1Same.calls kj10 _ _ t146 _ _ l0_0 true _ ?side1 ?side2 ?side3 ?side4 A22.out).mono ?_); (case side1 => repeat (first | exact (Kd.R_reads' HO149.out).2.2 | (with_reducible first | apply cA | apply cN | apply cD))); (case side2 => exact (Kd.R_reads' HO149.out).2.1); (case side3 => repeat (first | exact (Kd.C_below HR0_0.out HB.out) | (with_reducible first | apply cA | apply cN | apply cD))); (case side4 => exact HC0_0.out); rintro e w' ⟨rfl, ⟨nd, rfl⟩⟩; refine ⟨_, rfl, ?_⟩; obtain ⟨Ao27, co27, eo27⟩ := Kd.R_slice HO151.out; subst eo27) | (go_at_call 63; (with_reducible refine (spec_l1Same.calls kj10 _ _ t147 _ _ l0_1 t153 _ ?side1 ?side2 ?side3 ?side4 A24.out).mono ?_); (case side1 => repeat (first | exact (Kd.R_reads' HO151.out).2.2 | (with_reducible first | apply cA | apply cN | apply cD))); (case side2 => exact (Kd.R_reads' HO151.out).2.1); (case side3 => repeat (first | exact (Kd.C_below HR0_1.out (by repeat (with_reducible first | exact HB.out | apply bA | apply bN | apply bD | refine bS ?_ GE142.out))) | (with_reducible first | apply cA | apply cN | apply cD))); (case side4 => exact HC0_1.out); rintro e w' ⟨rfl, ⟨nd, rfl⟩⟩))
         go_meet
         case rel => exact ⟨_, (!t153), (by first | rfl | (simp; done) | (simp [*]; done)), H', ⟨by have := HJ1.out; have := HJ10.out; first | omega | exact Nat.le_refl _⟩, ⟨by (with_reducible repeat (first | apply kB | apply kC | apply kE)); exact BK142.out⟩, ⟨by repeat (with_reducible first | exact HB.out | apply bA | apply bN | apply bD | refine bS ?_ GE142.out)⟩⟩
        ·replace c23 := Bool.eq_false_iff.mpr c23
         subst c23
         have H1 : (spec_stGood.j2 kj10 true l0_0 l0_1 a0_2) = some r := by rw [if_neg (show ¬ (false = true) by decide)] at H; exact H
         clear H
         have H := H1
         clear H1
         have H' := am H
         clear H
         have hcz28_0 : w21.cell? ⟨gb142, 0, none⟩ = some (.slice A0_0 l0_0.length c0_0) := (blk_cell BK142.out 0).trans rfl
         have hcz28_1 : w21.cell? ⟨gb142, 1, none⟩ = some (.slice A0_1 l0_1.length c0_1) := (blk_cell BK142.out 1).trans rfl
         have hcz28_2 : w21.cell? ⟨gb142, 2, none⟩ = some (.int .i64 a0_2) := (blk_cell BK142.out 2).trans rfl
         have hfz28_0 := blk_frozen BK142.out 0
         have hfz28_1 := blk_frozen BK142.out 1
         have hfz28_2 := blk_frozen BK142.out 2
         obtain ⟨Ao29, co29, eo29⟩ := Kd.R_slice HO149.out
         subst eo29
         go_wp2_with (first | ((with_reducible refine gate_callee (f := 63) rfl ?_); refine goesL_ (some 46) rfl rfl Try.func63 (by kernel_rfl) rfl #[.slice Ao29 t146.length co29, .slice A0_0 l0_0.length c0_0] rfl (by (try simp only [mT, mC, mZ]); first | done | rfl) ?_; (with_reducible refine (spec_l1Same.calls kj10 _ _ t146 _ _ l0_0 false _ ?side1 ?side2 ?side3 ?side4 A22.out).mono ?_); (case side1 => repeat (first | exact (Kd.R_reads' HO149.out).2.2 | (with_reducible first | apply cA | apply cN | apply cD))); (case side2 => exact (Kd.R_reads' HO149.out).2.1); (case side3 => repeat (first | exact (Kd.C_below HR0_0.out HB.out) | (with_reducible first | apply cA | apply cN | apply cD))); (case side4 => exact HC0_0.out); rintro e w' ⟨rfl, ⟨nd, rfl⟩⟩; refine ⟨_, rfl, ?_⟩))
         go_meet
         case rel => exact ⟨_, (true), (by first | rfl | (simp; done) | (simp [*]; done)), H', ⟨by have := HJ1.out; have := HJ10.out; first | omega | exact Nat.le_refl _⟩, ⟨by (with_reducible repeat (first | apply kB | apply kC | apply kE)); exact BK142.out⟩, ⟨by repeat (with_reducible first | exact HB.out | apply bA | apply bN | apply bD | refine bS ?_ GE142.out)⟩⟩
       case rest =>
        clear HC19
        try clear p2
        try clear hcz15_0
        try clear hcz15_1
        try clear hcz15_2
        try clear hcz16_0
        try clear hcz16_1
        try clear hcz16_2
        try clear hcz20_0
        try clear hcz20_1
        try clear hcz20_2
        try clear hcz25_0
        try clear hcz25_1
        try clear hcz25_2
        try clear hcz28_0
        try clear hcz28_1
        try clear hcz28_2
        try clear hcz5_0
        try clear hcz5_1
        try clear hcz5_2
        try clear hcz7_0
        try clear hcz7_1
        try clear hcz7_2
        try clear hcz9_0
        try clear hcz9_1
        try clear hcz9_2
        try clear hfz15_0
        try clear hfz15_1
        try clear hfz15_2
        try clear hfz16_0
        try clear hfz16_1
        try clear hfz16_2
        try clear hfz20_0
        try clear hfz20_1
        try clear hfz20_2
        try clear hfz25_0
        try clear hfz25_1
        try clear hfz25_2
        try clear hfz28_0
        try clear hfz28_1
        try clear hfz28_2
        try clear hfz5_0
        try clear hfz5_1
        try clear hfz5_2
        try clear hfz7_0
        try clear hfz7_1
        try clear hfz7_2
        try clear hfz9_0
        try clear hfz9_1
        try clear hfz9_2
        try clear p2
        obtain ⟨kq, x54_18, rfl, HA, HJ18, BK142, HB⟩ := hcut
        cases kq with
        | zero => exact absurd HA.out (by simp [spec_stGood.j2])
        | succ kj18 =>
         have H := HA.out
         clear HA
         simp only [spec_stGood.j2] at H
         by_cases c30 : x54_18 = true
         ·subst c30
          have H1 : (some false) = some r := by rw [if_pos rfl] at H; exact H
          clear H
          have H := H1
          clear H1
          obtain rfl := Option.some.inj H
          go_wp2
          go_ret
          exact ⟨by first | rfl | (simp [*, errW_none, errW_some] <;> rfl), by repeat (with_reducible first | exact HB.out | apply bA | apply bN | apply bD | refine bS ?_ GE142.out)⟩
         ·replace c30 := Bool.eq_false_iff.mpr c30
          subst c30
          have H1 : ((spec_stAround.f kj18 l0_0 l0_1 a0_2).bind fun t154 => (spec_stGood.l0 kj18 ([] : List Int) ([] : List Int) t154 (t154.length : Int) 0)) = some r := by rw [if_neg (show ¬ (false = true) by decide)] at H; exact H
          clear H
          have H := H1
          clear H1
          replace H := Option.bind_eq_some_iff.mp H
          obtain ⟨t154, A310, H⟩ := H
          replace H : (spec_stGood.l0 kj18 ([] : List Int) ([] : List Int) t154 (t154.length : Int) 0) = some r := H
          have A31 := am A310
          clear A310
          have H' := am H
          clear H
          have hcz32_0 : wc.cell? ⟨gb142, 0, none⟩ = some (.slice A0_0 l0_0.length c0_0) := (blk_cell BK142.out 0).trans rfl
          have hcz32_1 : wc.cell? ⟨gb142, 1, none⟩ = some (.slice A0_1 l0_1.length c0_1) := (blk_cell BK142.out 1).trans rfl
          have hcz32_2 : wc.cell? ⟨gb142, 2, none⟩ = some (.int .i64 a0_2) := (blk_cell BK142.out 2).trans rfl
          have hfz32_0 := blk_frozen BK142.out 0
          have hfz32_1 := blk_frozen BK142.out 1
          have hfz32_2 := blk_frozen BK142.out 2
          go_wp2_with (first | ((with_reducible refine gate_callee (f := 64) rfl ?_); refine goesL_ (some 56) rfl rfl Try.func64 (by kernel_rfl) rfl #[.agg #[.slice A0_0 l0_0.length c0_0, .slice A0_1 l0_1.length c0_1, .int .i64 a0_2]] rfl (by (try simp only [mT, mC, mZ]); first | done | rfl) ?_; (with_reducible refine (spec_stAround.calls kj18 _ _ l0_0 _ _ l0_1 a0_2 t154 _ ?side1 ?side2 ?side3 ?side4 A31.out).mono ?_); (case side1 => repeat (first | exact (Kd.C_below HR0_0.out HB.out) | (with_reducible first | apply cA | apply cN | apply cD))); (case side2 => exact HC0_0.out); (case side3 => repeat (first | exact (Kd.C_below HR0_1.out HB.out) | (with_reducible first | apply cA | apply cN | apply cD))); (case side4 => exact HC0_1.out); rintro e w33 ⟨v155, rfl, ho0, hb⟩; refine ⟨_, rfl, ?_⟩; have HO156 := am (Kd.R_lower ho0 (below_size (by repeat (with_reducible first | exact HB.out | apply bA | apply bN | apply bD | refine bS ?_ GE142.out)))); replace BK142 := am (blk_below (g := gb142) (by (with_reducible repeat (first | apply kB | apply kC | apply kE)); exact BK142.out) hb); replace HB := am (below_step (by repeat (with_reducible first | exact HB.out | apply bA | apply bN | apply bD | refine bS ?_ GE142.out)) hb); (try clear hb); (try clear hb2); (try clear hk); (try clear hi); (try clear ho0); obtain ⟨Ao34, co34, eo34⟩ := Kd.R_slice HO156.out; subst eo34))
          go_loopg [5, 6, 58] kj18 (fun kq v5 v6 v58 w' => ∃ (x5_4 : List Int) (x6_4 : List Int) (x58_4 : Int), v58 = .int .i64 x58_4 ∧ Aside0 (spec_stGood.l0 kq x5_4 x6_4 t154 (t154.length : Int) x58_4 = some r) ∧ Aside0 (kq ≤ kj18) ∧ Aside0 (Kd.R (Kd.int .i64) 3 w' w.heap.size (fun k_ => some k_ ≠ (v6 : Value).ownBlock ∧ some k_ ≠ ((.slice Ao34 t154.length co34) : Value).ownBlock) v5 x5_4) ∧ Aside0 (Kd.R (Kd.int .i64) 3 w' w.heap.size (fun k_ => some k_ ≠ (v5 : Value).ownBlock ∧ some k_ ≠ ((.slice Ao34 t154.length co34) : Value).ownBlock) v6 x6_4) ∧ Aside0 (Kd.R (Kd.int .i64) 3 w' w.heap.size (fun k_ => some k_ ≠ (v5 : Value).ownBlock ∧ some k_ ≠ (v6 : Value).ownBlock) (.slice Ao34 t154.length co34) t154) ∧ Aside0 (w'.heap[gb142]? = some (.cells #[(.slice A0_0 l0_0.length c0_0), (.slice A0_1 l0_1.length c0_1), .int .i64 a0_2] 27 (0, 0))) ∧ Aside0 (Below w.heap.size w w'))
          case atStart => exact ⟨(([] : List Int)), (([] : List Int)), (0), (by first | rfl | (simp; done) | (simp [*]; done)), H', ⟨Nat.le_refl _⟩, ⟨by first | exact Kd.R_nil _ _ _ _ _ | exact Kd.N_nil _ _ _ _ _ | exact Kd.V_nil _ _ _ _ _ | exact Kd.Q_nil _ _ _ _ _ | exact Kd.S_nil _ _ _ _ _⟩, ⟨by first | exact Kd.R_nil _ _ _ _ _ | exact Kd.N_nil _ _ _ _ _ | exact Kd.V_nil _ _ _ _ _ | exact Kd.Q_nil _ _ _ _ _ | exact Kd.S_nil _ _ _ _ _⟩, ⟨by (with_reducible repeat (first | apply rA | apply rN | apply rD)); exact Kd.R_mono HO156.out (fun _ hk => ⟨(by simp [Value.ownBlock]), (by simp [Value.ownBlock])⟩)⟩, ⟨by (with_reducible repeat (first | apply kB | apply kC | apply kE)); exact BK142.out⟩, ⟨by repeat (with_reducible first | exact HB.out | apply bA | apply bN | apply bD | refine bS ?_ GE142.out)⟩⟩
          case round =>
           clear H'
           try clear p2
           try clear hcz15_0
           try clear hcz15_1
           try clear hcz15_2
           try clear hcz16_0
           try clear hcz16_1
           try clear hcz16_2
           try clear hcz20_0
           try clear hcz20_1
           try clear hcz20_2
           try clear hcz25_0
           try clear hcz25_1
           try clear hcz25_2
           try clear hcz28_0
           try clear hcz28_1
           try clear hcz28_2
           try clear hcz32_0
           try clear hcz32_1
           try clear hcz32_2
           try clear hcz5_0
           try clear hcz5_1
           try clear hcz5_2
           try clear hcz7_0
           try clear hcz7_1
           try clear hcz7_2
           try clear hcz9_0
           try clear hcz9_1
           try clear hcz9_2
           try clear hfz15_0
           try clear hfz15_1
           try clear hfz15_2
           try clear hfz16_0
           try clear hfz16_1
           try clear hfz16_2
           try clear hfz20_0
           try clear hfz20_1
           try clear hfz20_2
           try clear hfz25_0
           try clear hfz25_1
           try clear hfz25_2
           try clear hfz28_0
           try clear hfz28_1
           try clear hfz28_2
           try clear hfz32_0
           try clear hfz32_1
           try clear hfz32_2
           try clear hfz5_0
           try clear hfz5_1
           try clear hfz5_2
           try clear hfz7_0
           try clear hfz7_1
           try clear hfz7_2
           try clear hfz9_0
           try clear hfz9_1
           try clear hfz9_2
           try clear p2
           obtain ⟨x5_4, x6_4, x58_4, rfl, HA, HK4, HO_5, HO_6, HO_56, BK142, HB⟩ := hrel
           cases gk with
           | zero => exact absurd HA.out (by simp [spec_stGood.l0])
           | succ k4 =>
            have H := HA.out
            clear HA
            simp only [spec_stGood.l0] at H
            by_cases c35 : x58_4 < (t154.length : Int)
            ·rw [if_pos c35] at H
             have c35b0 : decide (x58_4 < (t154.length : Int)) = true := decide_eq_true c35
             clear c35
             by_cases c36 : 0 ≤ x58_4
             ·rw [if_pos c36] at H
              have c36b0 : decide (0 ≤ x58_4) = true := decide_eq_true c36
              clear c36
              by_cases c37 : x58_4 < (t154.length : Int)
              ·rw [if_pos c37] at H
               have c37b0 : decide (x58_4 < (t154.length : Int)) = true := decide_eq_true c37
               clear c37
               replace H := Option.bind_eq_some_iff.mp H
               obtain ⟨t158, A380, H⟩ := H
               replace H : (if t158 = true then (some false) else ((spec_l1Has.f k4 x5_4 (rd t154 x58_4)).bind fun t159 => (if t159 = true then (if 0 ≤ (wrap64 ((x5_4.length : Int) - 1)) then (if (wrap64 ((x5_4.length : Int) - 1)) < (x5_4.length : Int) then (if (rd x5_4 (wrap64 ((x5_4.length : Int) - 1))) = (rd t154 x58_4) then (if (wrap64 ((x5_4.length : Int) - 1)) ≤ (x5_4.length : Int) then (if x6_4.length < 17592186044416 then (spec_stGood.l0 k4 (x5_4.take ((wrap64 ((x5_4.length : Int) - 1)) : Int).toNat) (x6_4 ++ [rd t154 x58_4]) t154 (t154.length : Int) (wrap64 (x58_4 + 1))) else (none)) else (none)) else (some false)) else (none)) else (none)) else (if x5_4.length < 17592186044416 then (spec_stGood.l0 k4 (x5_4 ++ [rd t154 x58_4]) x6_4 t154 (t154.length : Int) (wrap64 (x58_4 + 1))) else (none))))) = some r := H
               have A38 := am A380
               clear A380
               by_cases c39 : t158 = true
               ·subst c39
                have H1 : (some false) = some r := by rw [if_pos rfl] at H; exact H
                clear H
                have H := H1
                clear H1
                obtain rfl := Option.some.inj H
                have p157 : 0 ≤ (x58_4 : Int) := ofd (by assumption)
                have q157 : x58_4 < (t154.length : Int) := ofd (by assumption)
                obtain ⟨ad157, e157, hx157_0⟩ := Kd.at_int (Kd.R_reads' HO_56.out).2.2 x58_4 p157 q157
                cases e157
                replace p157 := eq_true p157
                replace q157 := eq_true q157
                obtain ⟨Ao40, co40, eo40⟩ := Kd.R_slice HO_6.out
                subst eo40
                go_wp2_with (first | ((with_reducible refine gate_callee (f := 65) rfl ?_); refine goesL_ (some 74) rfl rfl Try.func65 (by kernel_rfl) rfl #[.slice Ao40 x6_4.length co40, .int .i64 (rd t154 x58_4)] rfl (by (try simp only [mT, mC, mZ]); first | done | rfl) ?_; (with_reducible refine (spec_l1Has.calls k4 _ _ x6_4 (rd t154 x58_4) true _ ?side1 ?side2 A38.out).mono ?_); (case side1 => repeat (first | exact (Kd.R_reads' HO_6.out).2.2 | (with_reducible first | apply cA | apply cN | apply cD))); (case side2 => exact (Kd.R_reads' HO_6.out).2.1); rintro e w' ⟨rfl, ⟨nd, rfl⟩⟩; refine ⟨_, rfl, ?_⟩))
                go_ret
                exact ⟨by first | rfl | (simp [*, errW_none, errW_some] <;> rfl), by repeat (with_reducible first | exact HB.out | apply bA | apply bN | apply bD | refine bS ?_ GE142.out)⟩
               ·replace c39 := Bool.eq_false_iff.mpr c39
                subst c39
                have H1 : ((spec_l1Has.f k4 x5_4 (rd t154 x58_4)).bind fun t159 => (if t159 = true then (if 0 ≤ (wrap64 ((x5_4.length : Int) - 1)) then (if (wrap64 ((x5_4.length : Int) - 1)) < (x5_4.length : Int) then (if (rd x5_4 (wrap64 ((x5_4.length : Int) - 1))) = (rd t154 x58_4) then (if (wrap64 ((x5_4.length : Int) - 1)) ≤ (x5_4.length : Int) then (if x6_4.length < 17592186044416 then (spec_stGood.l0 k4 (x5_4.take ((wrap64 ((x5_4.length : Int) - 1)) : Int).toNat) (x6_4 ++ [rd t154 x58_4]) t154 (t154.length : Int) (wrap64 (x58_4 + 1))) else (none)) else (none)) else (some false)) else (none)) else (none)) else (if x5_4.length < 17592186044416 then (spec_stGood.l0 k4 (x5_4 ++ [rd t154 x58_4]) x6_4 t154 (t154.length : Int) (wrap64 (x58_4 + 1))) else (none)))) = some r := by rw [if_neg (show ¬ (false = true) by decide)] at H; exact H
                clear H
                have H := H1
                clear H1
                replace H := Option.bind_eq_some_iff.mp H
                obtain ⟨t159, A410, H⟩ := H
                replace H : (if t159 = true then (if 0 ≤ (wrap64 ((x5_4.length : Int) - 1)) then (if (wrap64 ((x5_4.length : Int) - 1)) < (x5_4.length : Int) then (if (rd x5_4 (wrap64 ((x5_4.length : Int) - 1))) = (rd t154 x58_4) then (if (wrap64 ((x5_4.length : Int) - 1)) ≤ (x5_4.length : Int) then (if x6_4.length < 17592186044416 then (spec_stGood.l0 k4 (x5_4.take ((wrap64 ((x5_4.length : Int) - 1)) : Int).toNat) (x6_4 ++ [rd t154 x58_4]) t154 (t154.length : Int) (wrap64 (x58_4 + 1))) else (none)) else (none)) else (some false)) else (none)) else (none)) else (if x5_4.length < 17592186044416 then (spec_stGood.l0 k4 (x5_4 ++ [rd t154 x58_4]) x6_4 t154 (t154.length : Int) (wrap64 (x58_4 + 1))) else (none))) = some r := H
                have A41 := am A410
                clear A410
                by_cases c42 : t159 = true
                ·subst c42
                 have H1 : (if 0 ≤ (wrap64 ((x5_4.length : Int) - 1)) then (if (wrap64 ((x5_4.length : Int) - 1)) < (x5_4.length : Int) then (if (rd x5_4 (wrap64 ((x5_4.length : Int) - 1))) = (rd t154 x58_4) then (if (wrap64 ((x5_4.length : Int) - 1)) ≤ (x5_4.length : Int) then (if x6_4.length < 17592186044416 then (spec_stGood.l0 k4 (x5_4.take ((wrap64 ((x5_4.length : Int) - 1)) : Int).toNat) (x6_4 ++ [rd t154 x58_4]) t154 (t154.length : Int) (wrap64 (x58_4 + 1))) else (none)) else (none)) else (some false)) else (none)) else (none)) = some r := by rw [if_pos rfl] at H; exact H
                 clear H
                 have H := H1
                 clear H1
                 obtain ⟨ji43, hji43⟩ : ∃ j_ : Int, (wrap64 ((x5_4.length : Int) - 1)) = j_ := ⟨_, rfl⟩
                 replace H : (if 0 ≤ (ji43) then (if (ji43) < (x5_4.length : Int) then (if (rd x5_4 (ji43)) = (rd t154 x58_4) then (if (ji43) ≤ (x5_4.length : Int) then (if x6_4.length < 17592186044416 then (spec_stGood.l0 k4 (x5_4.take ((ji43) : Int).toNat) (x6_4 ++ [rd t154 x58_4]) t154 (t154.length : Int) (wrap64 (x58_4 + 1))) else (none)) else (none)) else (some false)) else (none)) else (none)) = some r := by first | (rw [hji43] at H; exact H) | (simp only [hji43] at H ⊢; exact H)
                 (try rw [hji43] at A38)
                 (try rw [hji43] at A41)
                 have hji43w : (IntKind.i64.wrap ((x5_4.length : Int) - 1)) = ji43 := (i64_w _).trans hji43
                 by_cases c44 : 0 ≤ (ji43)
                 ·rw [if_pos c44] at H
                  have c44b0 : decide (0 ≤ (ji43)) = true := decide_eq_true c44
                  clear c44
                  by_cases c45 : (ji43) < (x5_4.length : Int)
                  ·rw [if_pos c45] at H
                   have c45b0 : decide ((ji43) < (x5_4.length : Int)) = true := decide_eq_true c45
                   clear c45
                   by_cases c46 : (rd x5_4 (ji43)) = (rd t154 x58_4)
                   ·rw [if_pos c46] at H
                    have c46b0 : ((rd x5_4 (ji43)) == (rd t154 x58_4)) = true := beq_iff_eq.mpr c46
                    have c46b1 : ((rd x5_4 (ji43)) != (rd t154 x58_4)) = false := bne_eq_false_iff_eq.mpr c46
                    clear c46
                    by_cases c47 : (ji43) ≤ (x5_4.length : Int)
                    ·rw [if_pos c47] at H
                     have c47b0 := eq_true c47
                     have c47b1 : decide ((ji43) ≤ (x5_4.length : Int)) = true := decide_eq_true c47
                     clear c47
                     obtain ⟨y161, hy161⟩ : ∃ y_ : List Int, y_ = (x5_4.take ((ji43) : Int).toNat) := ⟨_, rfl⟩
                     replace H : (if x6_4.length < 17592186044416 then (spec_stGood.l0 k4 y161 (x6_4 ++ [rd t154 x58_4]) t154 (t154.length : Int) (wrap64 (x58_4 + 1))) else (none)) = some r := by first | (rw [hy161]; with_reducible exact H) | (have H2_ := (Option.bind_some _ _).symm.trans H; rw [hy161]; with_reducible exact H2_) | (have H2_ := (Option.bind_some _ _).symm.trans H; with_reducible exact H2_) | with_reducible exact H | (rw [hy161]; exact H) | exact H
                     have Ny161 := am hy161
                     clear hy161
                     by_cases c48 : x6_4.length < 17592186044416
                     ·rw [if_pos c48] at H
                      have LMc48 := am c48
                      clear c48
                      obtain ⟨y164, hy164⟩ : ∃ y_ : List Int, y_ = (x6_4 ++ [rd t154 x58_4]) := ⟨_, rfl⟩
                      replace H : (spec_stGood.l0 k4 y161 y164 t154 (t154.length : Int) (wrap64 (x58_4 + 1))) = some r := by first | (rw [hy164]; with_reducible exact H) | (have H2_ := (Option.bind_some _ _).symm.trans H; rw [hy164]; with_reducible exact H2_) | (have H2_ := (Option.bind_some _ _).symm.trans H; with_reducible exact H2_) | with_reducible exact H | (rw [hy164]; exact H) | exact H
                      have Ny164 := am hy164
                      clear hy164
                      have H' := am H
                      clear H
                      have p157 : 0 ≤ (x58_4 : Int) := ofd (by assumption)
                      have q157 : x58_4 < (t154.length : Int) := ofd (by assumption)
                      obtain ⟨ad157, e157, hx157_0⟩ := Kd.at_int (Kd.R_reads' HO_56.out).2.2 x58_4 p157 q157
                      cases e157
                      replace p157 := eq_true p157
                      replace q157 := eq_true q157
                      obtain ⟨Ao49, co49, eo49⟩ := Kd.R_slice HO_6.out
                      subst eo49
                      go_wp2_with (first | ((with_reducible refine gate_callee (f := 65) rfl ?_); refine goesL_ (some 74) rfl rfl Try.func65 (by kernel_rfl) rfl #[.slice Ao49 x6_4.length co49, .int .i64 (rd t154 x58_4)] rfl (by (try simp only [mT, mC, mZ]); first | done | rfl) ?_; (with_reducible refine (spec_l1Has.calls k4 _ _ x6_4 (rd t154 x58_4) false _ ?side1 ?side2 A38.out).mono ?_); (case side1 => repeat (first | exact (Kd.R_reads' HO_6.out).2.2 | (with_reducible first | apply cA | apply cN | apply cD))); (case side2 => exact (Kd.R_reads' HO_6.out).2.1); rintro e w' ⟨rfl, ⟨nd, rfl⟩⟩; refine ⟨_, rfl, ?_⟩; obtain ⟨Ao50, co50, eo50⟩ := Kd.R_slice HO_5.out; subst eo50) | ((with_reducible refine gate_callee (f := 65) rfl ?_); refine goesL_ (some 78) rfl rfl Try.func65 (by kernel_rfl) rfl #[.slice Ao50 x5_4.length co50, .int .i64 (rd t154 x58_4)] rfl (by (try simp only [mT, mC, mZ]); first | done | rfl) ?_; (with_reducible refine (spec_l1Has.calls k4 _ _ x5_4 (rd t154 x58_4) true _ ?side1 ?side2 A41.out).mono ?_); (case side1 => repeat (first | exact (Kd.R_reads' HO_5.out).2.2 | (with_reducible first | apply cA | apply cN | apply cD))); (case side2 => exact (Kd.R_reads' HO_5.out).2.1); rintro e w' ⟨rfl, ⟨nd, rfl⟩⟩; refine ⟨_, rfl, ?_⟩; have p160 : 0 ≤ ((ji43) : Int) := ofd (by assumption); have q160 : (ji43) < (x5_4.length : Int) := ofd (by assumption); obtain ⟨ad160, e160, hx160_0⟩ := Kd.at_int (Kd.R_reads' HO_5.out).2.2 (ji43) p160 q160; cases e160; replace p160 := eq_true p160; replace q160 := eq_true q160; have q51 : ((ji43) : Int) ≤ ((x5_4.length : Int) : Int) := ofd (by assumption); obtain ⟨i051, hi051, _, hsz51, _⟩ := info_parts info3; have hcut51 := cut_to (P := Try.prog) 22 3 .i64 Try.underlying22 hi051 (some ad160) x5_4.length co50 (ji43) (ofd (by assumption)) q51 (Kd.R_reads' HO_5.out).2.1; have hr51 := Kd.R_take (m := ((ji43) : Int).toNat) HO_5.out (by omega); have hy51 : y161.length = ((ji43) : Int).toNat := (by rw [Ny161.out, List.length_take]; omega); rw [← Ny161.out] at hr51; rw [← hy51] at hr51 hcut51; clear hy51 hi051 hsz51 HO_5; have HO163 := am hr51; clear hr51; replace q51 := eq_true q51) | ((with_reducible refine gate_builtin (b := .append) (xs := #[.tmp 67, .tmp 69]) rfl ?_); (try (refine gate_guard (by rfl) ?_; dsimp only)); at_builtin; refine Kd.R_append (Kd.int .i64) (w0 := w) w.heap.size rfl (.tmp 67) (.tmp 69) 22 3 (.int .i64 0) 8 rfl Try.underlying22 info3 rfl (by decide) (by omega) (.slice Ao49 x6_4.length co49) x6_4 (rd t154 x58_4) [.int .i64 (rd t154 x58_4)] (fun k_ => some k_ ≠ (.slice (some ad160) y161.length co50 : Value).ownBlock ∧ some k_ ≠ (.slice (some ad157) t154.length co34 : Value).ownBlock) (fun _ => False) rfl rfl ?aP (fun _ hk => hk.elim) ?aF ?aO ?aB ?aS ?aL ?_; (case aP => exact rfl); (case aB => exact (by repeat (with_reducible first | exact HB.out | apply bA | apply bN | apply bD | refine bS ?_ GE142.out))); (case aF => exact (fun k_ hk => ⟨Kd.fresh' (Kd.R_lt (by (with_reducible repeat (first | apply rA | apply rN | apply rD)); exact HO163.out)) k_ hk, Kd.fresh' (Kd.R_lt (by (with_reducible repeat (first | apply rA | apply rN | apply rD)); exact HO_56.out)) k_ hk⟩)); (case aO => exact (by (with_reducible repeat (first | apply rA | apply rN | apply rD)); exact HO_6.out)); (case aS => exact (below_size (by repeat (with_reducible first | exact HB.out | apply bA | apply bN | apply bD | refine bS ?_ GE142.out)))); (case aL => have := LMc48.out; omega); intro v165 w52 ho hb hg hat; rw [← Ny164.out] at ho; replace HO163 := am (Kd.R_after (ok := (fun k_ => some k_ ≠ (.slice (some ad157) t154.length co34 : Value).ownBlock)) (by (with_reducible repeat (first | apply rA | apply rN | apply rD)); exact Kd.R_mono HO163.out (fun _ hk => ⟨hk.2, hk.1⟩)) hg hat); replace HO_56 := am (Kd.R_after (ok := (fun k_ => some k_ ≠ (.slice (some ad160) y161.length co50 : Value).ownBlock)) (by (with_reducible repeat (first | apply rA | apply rN | apply rD)); exact HO_56.out) hg hat); replace BK142 := am (blk_grown (g := gb142) (by (with_reducible repeat (first | apply kB | apply kC | apply kE)); exact BK142.out) hg (Kd.R_ne HO_6.out BK142.out (by decide))); replace HB := am (hb); have HO166 := am (ho); clear HO_6; clear ho hb hg hat))
                      go_roundg k4
                      case measure => have := HJ1.out; have := HJ10.out; have := HJ18.out; have := HK4.out; omega
                      case rel => exact ⟨(y161), (y164), (wrap64 (x58_4 + 1)), (by first | rfl | (simp; done) | (simp [*]; done)), H', ⟨by have := HJ1.out; have := HJ10.out; have := HJ18.out; have := HK4.out; omega⟩, ⟨by (with_reducible repeat (first | apply rA | apply rN | apply rD)); exact Kd.R_mono HO163.out (fun _ hk => ⟨hk.2, hk.1⟩)⟩, ⟨by (with_reducible repeat (first | apply rA | apply rN | apply rD)); exact HO166.out⟩, ⟨by (with_reducible repeat (first | apply rA | apply rN | apply rD)); exact HO_56.out⟩, ⟨by (with_reducible repeat (first | apply kB | apply kC | apply kE)); exact BK142.out⟩, ⟨by repeat (with_reducible first | exact HB.out | apply bA | apply bN | apply bD | refine bS ?_ GE142.out)⟩⟩
                     ·rw [if_neg c48] at H
                      exact absurd H (by simp)
                    ·rw [if_neg c47] at H
                     exact absurd H (by simp)
                   ·rw [if_neg c46] at H
                    have c46b0 : ((rd x5_4 (ji43)) == (rd t154 x58_4)) = false := beq_eq_false_iff_ne.mpr c46
                    have c46b1 : ((rd x5_4 (ji43)) != (rd t154 x58_4)) = true := bne_iff_ne.mpr c46
                    obtain rfl := Option.some.inj H
                    have p157 : 0 ≤ (x58_4 : Int) := ofd (by assumption)
                    have q157 : x58_4 < (t154.length : Int) := ofd (by assumption)
                    obtain ⟨ad157, e157, hx157_0⟩ := Kd.at_int (Kd.R_reads' HO_56.out).2.2 x58_4 p157 q157
                    cases e157
                    replace p157 := eq_true p157
                    replace q157 := eq_true q157
                    obtain ⟨Ao53, co53, eo53⟩ := Kd.R_slice HO_6.out
                    subst eo53
                    go_wp2_with (first | ((with_reducible refine gate_callee (f := 65) rfl ?_); refine goesL_ (some 74) rfl rfl Try.func65 (by kernel_rfl) rfl #[.slice Ao53 x6_4.length co53, .int .i64 (rd t154 x58_4)] rfl (by (try simp only [mT, mC, mZ]); first | done | rfl) ?_; (with_reducible refine (spec_l1Has.calls k4 _ _ x6_4 (rd t154 x58_4) false _ ?side1 ?side2 A38.out).mono ?_); (case side1 => repeat (first | exact (Kd.R_reads' HO_6.out).2.2 | (with_reducible first | apply cA | apply cN | apply cD))); (case side2 => exact (Kd.R_reads' HO_6.out).2.1); rintro e w' ⟨rfl, ⟨nd, rfl⟩⟩; refine ⟨_, rfl, ?_⟩; obtain ⟨Ao54, co54, eo54⟩ := Kd.R_slice HO_5.out; subst eo54) | ((with_reducible refine gate_callee (f := 65) rfl ?_); refine goesL_ (some 78) rfl rfl Try.func65 (by kernel_rfl) rfl #[.slice Ao54 x5_4.length co54, .int .i64 (rd t154 x58_4)] rfl (by (try simp only [mT, mC, mZ]); first | done | rfl) ?_; (with_reducible refine (spec_l1Has.calls k4 _ _ x5_4 (rd t154 x58_4) true _ ?side1 ?side2 A41.out).mono ?_); (case side1 => repeat (first | exact (Kd.R_reads' HO_5.out).2.2 | (with_reducible first | apply cA | apply cN | apply cD))); (case side2 => exact (Kd.R_reads' HO_5.out).2.1); rintro e w' ⟨rfl, ⟨nd, rfl⟩⟩; refine ⟨_, rfl, ?_⟩; have p160 : 0 ≤ ((ji43) : Int) := ofd (by assumption); have q160 : (ji43) < (x5_4.length : Int) := ofd (by assumption); obtain ⟨ad160, e160, hx160_0⟩ := Kd.at_int (Kd.R_reads' HO_5.out).2.2 (ji43) p160 q160; cases e160; replace p160 := eq_true p160; replace q160 := eq_true q160))
                    go_ret
                    exact ⟨by first | rfl | (simp [errW_none, errW_some] <;> rfl) | (simp only [← hji43]; first | rfl | (simp [errW_none, errW_some] <;> rfl)) | (simp [*, errW_none, errW_some] <;> rfl), by repeat (with_reducible first | exact HB.out | apply bA | apply bN | apply bD | refine bS ?_ GE142.out)⟩
                  ·rw [if_neg c45] at H
                   exact absurd H (by simp)
                 ·rw [if_neg c44] at H
                  exact absurd H (by simp)
                ·replace c42 := Bool.eq_false_iff.mpr c42
                 subst c42
                 have H1 : (if x5_4.length < 17592186044416 then (spec_stGood.l0 k4 (x5_4 ++ [rd t154 x58_4]) x6_4 t154 (t154.length : Int) (wrap64 (x58_4 + 1))) else (none)) = some r := by rw [if_neg (show ¬ (false = true) by decide)] at H; exact H
                 clear H
                 have H := H1
                 clear H1
                 by_cases c55 : x5_4.length < 17592186044416
                 ·rw [if_pos c55] at H
                  have LMc55 := am c55
                  clear c55
                  obtain ⟨y167, hy167⟩ : ∃ y_ : List Int, y_ = (x5_4 ++ [rd t154 x58_4]) := ⟨_, rfl⟩
                  replace H : (spec_stGood.l0 k4 y167 x6_4 t154 (t154.length : Int) (wrap64 (x58_4 + 1))) = some r := by first | (rw [hy167]; with_reducible exact H) | (have H2_ := (Option.bind_some _ _).symm.trans H; rw [hy167]; with_reducible exact H2_) | (have H2_ := (Option.bind_some _ _).symm.trans H; with_reducible exact H2_) | with_reducible exact H | (rw [hy167]; exact H) | exact H
                  have Ny167 := am hy167
                  clear hy167
                  have H' := am H
                  clear H
                  have p157 : 0 ≤ (x58_4 : Int) := ofd (by assumption)
                  have q157 : x58_4 < (t154.length : Int) := ofd (by assumption)
                  obtain ⟨ad157, e157, hx157_0⟩ := Kd.at_int (Kd.R_reads' HO_56.out).2.2 x58_4 p157 q157
                  cases e157
                  replace p157 := eq_true p157
                  replace q157 := eq_true q157
                  obtain ⟨Ao56, co56, eo56⟩ := Kd.R_slice HO_6.out
                  subst eo56
                  go_wp2_with (first | ((with_reducible refine gate_callee (f := 65) rfl ?_); refine goesL_ (some 74) rfl rfl Try.func65 (by kernel_rfl) rfl #[.slice Ao56 x6_4.length co56, .int .i64 (rd t154 x58_4)] rfl (by (try simp only [mT, mC, mZ]); first | done | rfl) ?_; (with_reducible refine (spec_l1Has.calls k4 _ _ x6_4 (rd t154 x58_4) false _ ?side1 ?side2 A38.out).mono ?_); (case side1 => repeat (first | exact (Kd.R_reads' HO_6.out).2.2 | (with_reducible first | apply cA | apply cN | apply cD))); (case side2 => exact (Kd.R_reads' HO_6.out).2.1); rintro e w' ⟨rfl, ⟨nd, rfl⟩⟩; refine ⟨_, rfl, ?_⟩; obtain ⟨Ao57, co57, eo57⟩ := Kd.R_slice HO_5.out; subst eo57) | ((with_reducible refine gate_callee (f := 65) rfl ?_); refine goesL_ (some 78) rfl rfl Try.func65 (by kernel_rfl) rfl #[.slice Ao57 x5_4.length co57, .int .i64 (rd t154 x58_4)] rfl (by (try simp only [mT, mC, mZ]); first | done | rfl) ?_; (with_reducible refine (spec_l1Has.calls k4 _ _ x5_4 (rd t154 x58_4) false _ ?side1 ?side2 A41.out).mono ?_); (case side1 => repeat (first | exact (Kd.R_reads' HO_5.out).2.2 | (with_reducible first | apply cA | apply cN | apply cD))); (case side2 => exact (Kd.R_reads' HO_5.out).2.1); rintro e w' ⟨rfl, ⟨nd, rfl⟩⟩; refine ⟨_, rfl, ?_⟩) | ((with_reducible refine gate_builtin (b := .append) (xs := #[.tmp 80, .tmp 82]) rfl ?_); (try (refine gate_guard (by rfl) ?_; dsimp only)); at_builtin; refine Kd.R_append (Kd.int .i64) (w0 := w) w.heap.size rfl (.tmp 80) (.tmp 82) 22 3 (.int .i64 0) 8 rfl Try.underlying22 info3 rfl (by decide) (by omega) (.slice Ao57 x5_4.length co57) x5_4 (rd t154 x58_4) [.int .i64 (rd t154 x58_4)] (fun k_ => some k_ ≠ (.slice Ao56 x6_4.length co56 : Value).ownBlock ∧ some k_ ≠ (.slice (some ad157) t154.length co34 : Value).ownBlock) (fun _ => False) rfl rfl ?aP (fun _ hk => hk.elim) ?aF ?aO ?aB ?aS ?aL ?_; (case aP => exact rfl); (case aB => exact (by repeat (with_reducible first | exact HB.out | apply bA | apply bN | apply bD | refine bS ?_ GE142.out))); (case aF => exact (fun k_ hk => ⟨Kd.fresh' (Kd.R_lt (by (with_reducible repeat (first | apply rA | apply rN | apply rD)); exact HO_6.out)) k_ hk, Kd.fresh' (Kd.R_lt (by (with_reducible repeat (first | apply rA | apply rN | apply rD)); exact HO_56.out)) k_ hk⟩)); (case aO => exact (by (with_reducible repeat (first | apply rA | apply rN | apply rD)); exact HO_5.out)); (case aS => exact (below_size (by repeat (with_reducible first | exact HB.out | apply bA | apply bN | apply bD | refine bS ?_ GE142.out)))); (case aL => have := LMc55.out; omega); intro v168 w58 ho hb hg hat; rw [← Ny167.out] at ho; replace HO_6 := am (Kd.R_after (ok := (fun k_ => some k_ ≠ (.slice (some ad157) t154.length co34 : Value).ownBlock)) (by (with_reducible repeat (first | apply rA | apply rN | apply rD)); exact Kd.R_mono HO_6.out (fun _ hk => ⟨hk.2, hk.1⟩)) hg hat); replace HO_56 := am (Kd.R_after (ok := (fun k_ => some k_ ≠ (.slice Ao56 x6_4.length co56 : Value).ownBlock)) (by (with_reducible repeat (first | apply rA | apply rN | apply rD)); exact Kd.R_mono HO_56.out (fun _ hk => ⟨hk.2, hk.1⟩)) hg hat); replace BK142 := am (blk_grown (g := gb142) (by (with_reducible repeat (first | apply kB | apply kC | apply kE)); exact BK142.out) hg (Kd.R_ne HO_5.out BK142.out (by decide))); replace HB := am (hb); have HO169 := am (ho); clear HO_5; clear ho hb hg hat))
                  go_roundg k4
                  case measure => have := HJ1.out; have := HJ10.out; have := HJ18.out; have := HK4.out; omega
                  case rel => exact ⟨(y167), (x6_4), (wrap64 (x58_4 + 1)), (by first | rfl | (simp; done) | (simp [*]; done)), H', ⟨by have := HJ1.out; have := HJ10.out; have := HJ18.out; have := HK4.out; omega⟩, ⟨by (with_reducible repeat (first | apply rA | apply rN | apply rD)); exact HO169.out⟩, ⟨by (with_reducible repeat (first | apply rA | apply rN | apply rD)); exact Kd.R_mono HO_6.out (fun _ hk => ⟨hk.2, hk.1⟩)⟩, ⟨by (with_reducible repeat (first | apply rA | apply rN | apply rD)); exact Kd.R_mono HO_56.out (fun _ hk => ⟨hk.2, hk.1⟩)⟩, ⟨by (with_reducible repeat (first | apply kB | apply kC | apply kE)); exact BK142.out⟩, ⟨by repeat (with_reducible first | exact HB.out | apply bA | apply bN | apply bD | refine bS ?_ GE142.out)⟩⟩
                 ·rw [if_neg c55] at H
                  exact absurd H (by simp)
              ·rw [if_neg c37] at H
               exact absurd H (by simp)
             ·rw [if_neg c36] at H
              exact absurd H (by simp)
            ·rw [if_neg c35] at H
             have c35b0 : decide (x58_4 < (t154.length : Int)) = false := decide_eq_false c35
             clear c35
             obtain rfl := Option.some.inj H
             obtain ⟨Ao59, co59, eo59⟩ := Kd.R_slice HO_5.out
             subst eo59
             go_wp2
             go_ret
             exact ⟨by first | rfl | (simp [*, errW_none, errW_some] <;> rfl), by repeat (with_reducible first | exact HB.out | apply bA | apply bN | apply bD | refine bS ?_ GE142.out)⟩
end Go.Proofs.Ytlbaldejaapbiaa.QFnExactStatesAfter
