-- Written by wip/myprint.py (a program of mine round the kit's printer). Lean checks it.
import Derived.Test.YtmiliifbkgaalaaQFnExactStateBehindx0
import Derived.Test.YtmiliifbkgaalaaQFnExactStateBehindx6
import Derived.Test.YtmiliifbkgaalaaQFnExactStateBehindx7
import Derived.Test.YtmiliifbkgaalaaQFnExactStateBehindx9
namespace Go.Proofs.Ytmiliifbkgaalaa.QFnExactStateBehind
open Go.RowKit Go.Proofs.YtmiliifbkgaalaaW.PrintWords Go.Proofs.YtmiliifbkgaalaaW.PrintLast Go.Proofs.YtmiliifbkgaalaaW.PrintMore
attribute [local go_sem] max2_int min2_int max_two min_two max_three min_three max_four min_four   -- for this text's walks alone
set_option linter.unusedVariables false
set_option linter.unusedSimpArgs false

set_option maxHeartbeats 8000000
set_option maxRecDepth 100000
/-! ### impl_StateBehind: function 7 (by hand) -/
theorem own_len (A : Option Addr) (n m c : Nat) : (Value.slice A n c).ownBlock = (Value.slice A m c).ownBlock := by cases A <;> rfl
/-! ### impl_StateBehind: function 7 -/
mutual
def impl_StateBehind.j0 : Nat → Int → Bool → List Int → List Int → Option (List Int × List Int × Int × Bool)
 | 0, _, _, _, _ => none
 | k + 1, x1, x19, x402000, x402001 => if x19 = true then (some (([] : List Int), ([] : List Int), 0, false)) else ((impl_StartState.f).bind fun bt405 => ((impl_Meander_steps.f k x402000 x402001).bind fun t413 => (if 0 ≤ x1 then (if x1 ≤ (t413.length : Int) then ((some (t413.take (x1 : Int).toNat : List Int)).bind fun y416 => (impl_StateBehind.l0 k y416 (y416.length : Int) 0 bt405.1 bt405.2.1 bt405.2.2)) else (none)) else (none))))
def impl_StateBehind.l0 : Nat → List Int → Int → Int → List Int → List Int → Int → Option (List Int × List Int × Int × Bool)
 | 0, _, _, _, _, _, _ => none
 | k + 1, x25, x26, x27, x413000, x413001, x413002 => if x27 < x26 then (if 0 ≤ x27 then (if x27 < (x25.length : Int) then ((impl_State_stepped.f k x413000 x413001 x413002 (rd x25 x27)).bind fun bt420 => (impl_StateBehind.l0 k x25 x26 (wrap64 (x27 + 1)) bt420.1 bt420.2.1 bt420.2.2.1)) else (none)) else (none)) else (some (x413000, x413001, x413002, true))
end
def impl_StateBehind.f (k : Nat) (l0_0 : List Int) (l0_1 : List Int) (a1 : Int) : Option (List Int × List Int × Int × Bool) := (impl_IsPair.f k l0_0 l0_1).bind fun t403 => (if t403 = true then ((impl_in.f a1 0 (l0_0.length : Int)).bind fun t404 => (impl_StateBehind.j0 k a1 (!t404) l0_0 l0_1)) else (impl_StateBehind.j0 k a1 true l0_0 l0_1))
theorem impl_StateBehind.mono_l : ∀ k, (∀ y0 y1 y2 y3, LeO (impl_StateBehind.j0 k y0 y1 y2 y3) (impl_StateBehind.j0 (k + 1) y0 y1 y2 y3)) ∧ (∀ y0 y1 y2 y3 y4 y5, LeO (impl_StateBehind.l0 k y0 y1 y2 y3 y4 y5) (impl_StateBehind.l0 (k + 1) y0 y1 y2 y3 y4 y5))
 | 0 => ⟨fun _ _ _ _ r h => by simp [impl_StateBehind.j0] at h, fun _ _ _ _ _ _ r h => by simp [impl_StateBehind.l0] at h⟩
 | k + 1 => by
  obtain ⟨ih0, ih1⟩ := impl_StateBehind.mono_l k
  refine ⟨?_, ?_⟩
  ·intro y0 y1 y2 y3
   unfold impl_StateBehind.j0
   repeat' first
    | (with_reducible first | exact ih0 _ _ _ _ | exact ih1 _ _ _ _ _ _ | exact impl_IsPair.mono _ _ _ | exact impl_Meander_steps.mono _ _ _ | exact impl_State_stepped.mono _ _ _ _ _ | exact LeO.refl _ | exact LeO.none _ | refine LeO.ite ?_ ?_ | refine LeO.bind ?_ (fun _ => ?_))
    | exact LeO.none _
    | refine LeO.ite ?_ ?_
    | refine LeO.bind ?_ (fun _ => ?_)
  ·intro y0 y1 y2 y3 y4 y5
   unfold impl_StateBehind.l0
   repeat' first
    | (with_reducible first | exact ih0 _ _ _ _ | exact ih1 _ _ _ _ _ _ | exact impl_IsPair.mono _ _ _ | exact impl_Meander_steps.mono _ _ _ | exact impl_State_stepped.mono _ _ _ _ _ | exact LeO.refl _ | exact LeO.none _ | refine LeO.ite ?_ ?_ | refine LeO.bind ?_ (fun _ => ?_))
    | exact LeO.none _
    | refine LeO.ite ?_ ?_
    | refine LeO.bind ?_ (fun _ => ?_)
theorem impl_StateBehind.mono : ∀ a0 a1 a2 k, LeO (impl_StateBehind.f k a0 a1 a2) (impl_StateBehind.f (k + 1) a0 a1 a2) := by
 intro a0 a1 a2 k
 obtain ⟨ih0, ih1⟩ := impl_StateBehind.mono_l k
 unfold impl_StateBehind.f
 repeat' first
  | (with_reducible first | exact ih0 _ _ _ _ | exact ih1 _ _ _ _ _ _ | exact impl_IsPair.mono _ _ _ | exact impl_Meander_steps.mono _ _ _ | exact impl_State_stepped.mono _ _ _ _ _ | exact LeO.refl _ | exact LeO.none _ | refine LeO.ite ?_ ?_ | refine LeO.bind ?_ (fun _ => ?_))
  | exact LeO.none _
  | refine LeO.ite ?_ ?_
  | refine LeO.bind ?_ (fun _ => ?_)
theorem impl_StateBehind.calls (k : Nat) (A0_0 : Option Addr) (c0_0 : Nat) (l0_0 : List Int) (A0_1 : Option Addr) (c0_1 : Nat) (l0_1 : List Int) (a1 : Int) (r1 : List Int) (r2 : List Int) (r3 : Int) (r4 : Bool) (w : World) (hr0_0 : Kd.C (Kd.int .i64) w A0_0 l0_0.length l0_0) (hc0_0 : l0_0.length ≤ c0_0) (hr0_1 : Kd.C (Kd.int .i64) w A0_1 l0_1.length l0_1) (hc0_1 : l0_1.length ≤ c0_1) (h : impl_StateBehind.f k l0_0 l0_1 a1 = some (r1, r2, r3, r4)) :
  Calls Try.prog 7 #[.agg #[.slice A0_0 l0_0.length c0_0, .slice A0_1 l0_1.length c0_1], .int .i64 a1] w fun e w' => ∃ v0_ v1_ : Value, e = .returned (.tuple #[.agg #[v0_, v1_, .int .i64 r3], .bool r4]) ∧ Kd.R (Kd.int .i64) 3 w' w.heap.size (fun k_ => some k_ ≠ (v1_ : Value).ownBlock) v0_ r1 ∧ Kd.R (Kd.int .i64) 3 w' w.heap.size (fun k_ => some k_ ≠ (v0_ : Value).ownBlock) v1_ r2 ∧ Below w.heap.size w w' := by
 have hu30 := Try.underlying30
 have hu27 := Try.underlying27
 have HR0_0 := am hr0_0
 have HC0_0 := am hc0_0
 clear hr0_0 hc0_0
 have HR0_1 := am hr0_1
 have HC0_1 := am hc0_1
 clear hr0_1 hc0_1
 have HB := am (Below.refl w.heap.size w)
 have H : ((impl_IsPair.f k l0_0 l0_1).bind fun t403 => (if t403 = true then ((impl_in.f a1 0 (l0_0.length : Int)).bind fun t404 => (impl_StateBehind.j0 k a1 (!t404) l0_0 l0_1)) else (impl_StateBehind.j0 k a1 true l0_0 l0_1))) = some (r1, r2, r3, r4) := h
 clear h
 have HC3 := am H
 clear H
 go_enter Try.func7, Try.ntmps7
 go_upto_region 1 with (first | ((with_reducible refine gate_dst (N := 2) rfl ?_); (try (refine gate_guard (by rfl) ?_; dsimp only)); refine box_event ?hg (N := 2) ?hd (cs := #[.slice A0_0 l0_0.length c0_0, .slice A0_1 l0_1.length c0_1]) (t := 30) ?hr ?_; (case hd => rfl); (case hg => rfl); (case hr => first | (go_simp; done) | (go_simp; rfl)); intro gb401 hg w4 hbox hb; have BK401 := am (hbox); have GW401 := am ((by rw [hg]; exact (below_size (by repeat (with_reducible first | exact HB.out | apply bA | apply bN | apply bD))) : w.heap.size ≤ gb401)); have GE401 := am ((by rw [hg]; exact (below_size (by repeat (with_reducible first | exact HB.out | apply bA | apply bN | apply bD))) : w.heap.size ≤ gb401)); replace HB := am (below_step (by repeat (with_reducible first | exact HB.out | apply bA | apply bN | apply bD)) hb); clear hb hbox hg) | ((with_reducible refine gate_dst (N := 4) rfl ?_); (try (refine gate_guard (by rfl) ?_; dsimp only)); refine box_event ?hg (N := 4) ?hd (cs := #[.slice none 0 0, .slice none 0 0, .int .i64 0]) (t := 27) ?hr ?_; (case hd => rfl); (case hg => rfl); (case hr => first | (go_simp; done) | (go_simp; rfl)); intro gb402 hg w5 hbox hb; have BK402 := am (hbox); have GW402 := am ((by rw [hg]; exact (below_size (by repeat (with_reducible first | exact HB.out | apply bA | apply bN | apply bD | refine bS ?_ GE401.out))) : w.heap.size ≤ gb402)); have GE402 := am ((by rw [hg]; exact (below_size (by repeat (with_reducible first | exact HB.out | apply bA | apply bN | apply bD | refine bS ?_ GE401.out))) : w.heap.size ≤ gb402)); replace HB := am (below_step (by repeat (with_reducible first | exact HB.out | apply bA | apply bN | apply bD | refine bS ?_ GE401.out)) hb); have NB401_402 := am ((by rw [hg]; exact Nat.ne_of_lt (blk_lt (g := gb401) (o := .cells #[.slice A0_0 l0_0.length c0_0, .slice A0_1 l0_1.length c0_1] 30 (0, 0)) (by (with_reducible repeat (first | apply kB | apply kC | apply kE)); exact BK401.out)) : gb401 ≠ gb402)); have NB402_401 := am ((by rw [hg]; exact Nat.ne_of_gt (blk_lt (g := gb401) (o := .cells #[.slice A0_0 l0_0.length c0_0, .slice A0_1 l0_1.length c0_1] 30 (0, 0)) (by (with_reducible repeat (first | apply kB | apply kC | apply kE)); exact BK401.out)) : gb402 ≠ gb401)); replace BK401 := am (blk_below (g := gb401) (o := .cells #[.slice A0_0 l0_0.length c0_0, .slice A0_1 l0_1.length c0_1] 30 (0, 0)) (by (with_reducible repeat (first | apply kB | apply kC | apply kE)); exact BK401.out) hb); clear hb hbox hg))
 (try simp only [Act.put, List.setIfInBounds_toArray, List.set_cons_zero, List.set_cons_succ])
 go_cut [19] (fun v19 wc => ∃ (kq : Nat) (x19_2 : Bool), v19 = .bool x19_2 ∧ Aside0 (impl_StateBehind.j0 kq a1 x19_2 l0_0 l0_1 = some (r1, r2, r3, r4)) ∧ Aside0 (kq ≤ k) ∧ Aside0 (wc.heap[gb401]? = some (.cells #[(.slice A0_0 l0_0.length c0_0), (.slice A0_1 l0_1.length c0_1)] 30 (0, 0))) ∧ Aside0 (wc.heap[gb402]? = some (.cells #[(.slice none 0 0), (.slice none 0 0), .int .i64 0] 27 (0, 0))) ∧ Aside0 (Below w.heap.size w wc))
 case first =>
  have H := HC3.out
  clear HC3
  replace H := Option.bind_eq_some_iff.mp H
  obtain ⟨t403, A60, H⟩ := H
  replace H : (if t403 = true then ((impl_in.f a1 0 (l0_0.length : Int)).bind fun t404 => (impl_StateBehind.j0 k a1 (!t404) l0_0 l0_1)) else (impl_StateBehind.j0 k a1 true l0_0 l0_1)) = some (r1, r2, r3, r4) := H
  have A6 := am A60
  clear A60
  by_cases c7 : t403 = true
  ·subst c7
   have H1 : ((impl_in.f a1 0 (l0_0.length : Int)).bind fun t404 => (impl_StateBehind.j0 k a1 (!t404) l0_0 l0_1)) = some (r1, r2, r3, r4) := by rw [if_pos rfl] at H; exact H
   clear H
   have H := H1
   clear H1
   replace H := Option.bind_eq_some_iff.mp H
   obtain ⟨t404, A80, H⟩ := H
   replace H : (impl_StateBehind.j0 k a1 (!t404) l0_0 l0_1) = some (r1, r2, r3, r4) := H
   have A8 := am A80
   clear A80
   have H' := am H
   clear H
   have hnb9 := NB401_402.out
   have hnc9 := NB402_401.out
   have hcz10_0 : w5.cell? ⟨gb401, 0, none⟩ = some (.slice A0_0 l0_0.length c0_0) := (blk_cell BK401.out 0).trans rfl
   have hcz10_1 : w5.cell? ⟨gb401, 1, none⟩ = some (.slice A0_1 l0_1.length c0_1) := (blk_cell BK401.out 1).trans rfl
   have hfz10_0 := blk_frozen BK401.out 0
   have hfz10_1 := blk_frozen BK401.out 1
   go_wp2_with (first | ((with_reducible refine gate_callee (f := 19) rfl ?_); refine goesL_ (some 10) rfl rfl Try.func19 (by kernel_rfl) rfl #[.agg #[.slice A0_0 l0_0.length c0_0, .slice A0_1 l0_1.length c0_1]] rfl (by (try simp only [List.map_toArray, List.map_cons, List.map_nil]); first | done | rfl) ?_; (with_reducible refine (impl_IsPair.calls k _ _ l0_0 _ _ l0_1 true _ ?side1 ?side2 ?side3 ?side4 A6.out).mono ?_); (case side1 => repeat (first | exact (Kd.C_below HR0_0.out HB.out) | (with_reducible first | apply cA | apply cN | apply cD))); (case side2 => exact HC0_0.out); (case side3 => repeat (first | exact (Kd.C_below HR0_1.out HB.out) | (with_reducible first | apply cA | apply cN | apply cD))); (case side4 => exact HC0_1.out); rintro e w11 ⟨rfl, hb⟩; refine ⟨_, rfl, ?_⟩; replace BK401 := am (blk_below (g := gb401) (o := .cells #[.slice A0_0 l0_0.length c0_0, .slice A0_1 l0_1.length c0_1] 30 (0, 0)) (by (with_reducible repeat (first | apply kB | apply kC | apply kE)); exact BK401.out) hb); replace BK402 := am (blk_below (g := gb402) (o := .cells #[.slice none 0 0, .slice none 0 0, .int .i64 0] 27 (0, 0)) (by (with_reducible repeat (first | apply kB | apply kC | apply kE)); exact BK402.out) hb); replace HB := am (below_step (by repeat (with_reducible first | exact HB.out | apply bA | apply bN | apply bD | refine bS ?_ GE401.out | refine bS ?_ GE402.out)) hb); (try clear hb); (try clear hb2); (try clear hk); (try clear hi); have hcz12_0 : w11.cell? ⟨gb401, 0, none⟩ = some (.slice A0_0 l0_0.length c0_0) := (blk_cell BK401.out 0).trans rfl; have hcz12_1 : w11.cell? ⟨gb401, 1, none⟩ = some (.slice A0_1 l0_1.length c0_1) := (blk_cell BK401.out 1).trans rfl; have hfz12_0 := blk_frozen BK401.out 0; have hfz12_1 := blk_frozen BK401.out 1) | (go_at_call 20; (with_reducible refine (impl_in.calls a1 0 (l0_0.length : Int) t404 _ A8.out).mono ?_); rintro e w' ⟨rfl, ⟨nd, rfl⟩⟩))
   go_meet
   case rel => exact ⟨_, (!t404), (by first | rfl | (simp; done) | (simp [*]; done)), H', ⟨by first | omega | exact Nat.le_refl _⟩, ⟨by (with_reducible repeat (first | apply kB | apply kC | apply kE)); exact BK401.out⟩, ⟨by (with_reducible repeat (first | apply kB | apply kC | apply kE)); exact BK402.out⟩, ⟨by repeat (with_reducible first | exact HB.out | apply bA | apply bN | apply bD | refine bS ?_ GE401.out | refine bS ?_ GE402.out)⟩⟩
  ·replace c7 := Bool.eq_false_iff.mpr c7
   subst c7
   have H1 : (impl_StateBehind.j0 k a1 true l0_0 l0_1) = some (r1, r2, r3, r4) := by rw [if_neg (show ¬ (false = true) by decide)] at H; exact H
   clear H
   have H := H1
   clear H1
   have H' := am H
   clear H
   have hnb13 := NB401_402.out
   have hnc13 := NB402_401.out
   have hcz14_0 : w5.cell? ⟨gb401, 0, none⟩ = some (.slice A0_0 l0_0.length c0_0) := (blk_cell BK401.out 0).trans rfl
   have hcz14_1 : w5.cell? ⟨gb401, 1, none⟩ = some (.slice A0_1 l0_1.length c0_1) := (blk_cell BK401.out 1).trans rfl
   have hfz14_0 := blk_frozen BK401.out 0
   have hfz14_1 := blk_frozen BK401.out 1
   go_wp2_with (first | ((with_reducible refine gate_callee (f := 19) rfl ?_); refine goesL_ (some 10) rfl rfl Try.func19 (by kernel_rfl) rfl #[.agg #[.slice A0_0 l0_0.length c0_0, .slice A0_1 l0_1.length c0_1]] rfl (by (try simp only [List.map_toArray, List.map_cons, List.map_nil]); first | done | rfl) ?_; (with_reducible refine (impl_IsPair.calls k _ _ l0_0 _ _ l0_1 false _ ?side1 ?side2 ?side3 ?side4 A6.out).mono ?_); (case side1 => repeat (first | exact (Kd.C_below HR0_0.out HB.out) | (with_reducible first | apply cA | apply cN | apply cD))); (case side2 => exact HC0_0.out); (case side3 => repeat (first | exact (Kd.C_below HR0_1.out HB.out) | (with_reducible first | apply cA | apply cN | apply cD))); (case side4 => exact HC0_1.out); rintro e w15 ⟨rfl, hb⟩; refine ⟨_, rfl, ?_⟩; replace BK401 := am (blk_below (g := gb401) (o := .cells #[.slice A0_0 l0_0.length c0_0, .slice A0_1 l0_1.length c0_1] 30 (0, 0)) (by (with_reducible repeat (first | apply kB | apply kC | apply kE)); exact BK401.out) hb); replace BK402 := am (blk_below (g := gb402) (o := .cells #[.slice none 0 0, .slice none 0 0, .int .i64 0] 27 (0, 0)) (by (with_reducible repeat (first | apply kB | apply kC | apply kE)); exact BK402.out) hb); replace HB := am (below_step (by repeat (with_reducible first | exact HB.out | apply bA | apply bN | apply bD | refine bS ?_ GE401.out | refine bS ?_ GE402.out)) hb); (try clear hb); (try clear hb2); (try clear hk); (try clear hi)))
   go_meet
   case rel => exact ⟨_, (true), (by first | rfl | (simp; done) | (simp [*]; done)), H', ⟨by first | omega | exact Nat.le_refl _⟩, ⟨by (with_reducible repeat (first | apply kB | apply kC | apply kE)); exact BK401.out⟩, ⟨by (with_reducible repeat (first | apply kB | apply kC | apply kE)); exact BK402.out⟩, ⟨by repeat (with_reducible first | exact HB.out | apply bA | apply bN | apply bD | refine bS ?_ GE401.out | refine bS ?_ GE402.out)⟩⟩
 case rest =>
  clear HC3
  try clear p2
  try clear hcz10_0
  try clear hcz10_1
  try clear hcz12_0
  try clear hcz12_1
  try clear hcz14_0
  try clear hcz14_1
  try clear hfz10_0
  try clear hfz10_1
  try clear hfz12_0
  try clear hfz12_1
  try clear hfz14_0
  try clear hfz14_1
  obtain ⟨kq, x19_2, rfl, HA, HJ2, BK401, BK402, HB⟩ := hcut
  cases kq with
  | zero => exact absurd HA.out (by simp [impl_StateBehind.j0])
  | succ kj2 =>
   have H := HA.out
   clear HA
   simp only [impl_StateBehind.j0] at H
   by_cases c16 : x19_2 = true
   ·subst c16
    have H1 : (some (([] : List Int), ([] : List Int), 0, false)) = some (r1, r2, r3, r4) := by rw [if_pos rfl] at H; exact H
    clear H
    have H := H1
    clear H1
    simp only [Option.some.injEq, Prod.mk.injEq] at H
    obtain ⟨rfl, rfl, rfl, rfl⟩ := H
    have hnb17 := NB402_401.out
    have hnc17 := NB401_402.out
    have hcz18_0 : wc.cell? ⟨gb402, 0, none⟩ = some (.slice none 0 0) := (blk_cell BK402.out 0).trans rfl
    have hcz18_1 : wc.cell? ⟨gb402, 1, none⟩ = some (.slice none 0 0) := (blk_cell BK402.out 1).trans rfl
    have hcz18_2 : wc.cell? ⟨gb402, 2, none⟩ = some (.int .i64 0) := (blk_cell BK402.out 2).trans rfl
    have hfz18_0 := blk_frozen BK402.out 0
    have hfz18_1 := blk_frozen BK402.out 1
    have hfz18_2 := blk_frozen BK402.out 2
    go_wp2
    refine bodyPost_ret (results_ct rfl _ _ gb402 27 #[.slice none 0 0, .slice none 0 0, .int .i64 0] (0, 0) _ rfl (by (with_reducible repeat (first | apply kB | apply kC | apply kE)); refine blk_put (cs := #[.slice none 0 0, .slice none 0 0, .int .i64 0]) ?_ 2 _ rfl; (with_reducible repeat (first | apply kB | apply kC | apply kE)); refine blk_put (cs := #[.slice none 0 0, .slice none 0 0, .int .i64 0]) ?_ 1 _ rfl; (with_reducible repeat (first | apply kB | apply kC | apply kE)); refine blk_put (cs := #[.slice none 0 0, .slice none 0 0, .int .i64 0]) ?_ 0 _ rfl; (with_reducible repeat (first | apply kB | apply kC | apply kE)); exact BK402.out) Try.underlying27 rfl (by kernel_rfl)) rfl ?_
    exact ⟨_, _, by first | rfl | (simp [*, errW_none, errW_some] <;> rfl), by first | exact Kd.R_nil _ _ _ _ _ | exact Kd.N_nil _ _ _ _ _ | exact Kd.V_nil _ _ _ _ _ | exact Kd.Q_nil _ _ _ _ _ | exact Kd.S_nil _ _ _ _ _, by first | exact Kd.R_nil _ _ _ _ _ | exact Kd.N_nil _ _ _ _ _ | exact Kd.V_nil _ _ _ _ _ | exact Kd.Q_nil _ _ _ _ _ | exact Kd.S_nil _ _ _ _ _, by repeat (with_reducible first | exact HB.out | apply bA | apply bN | apply bD | refine bS ?_ GE401.out | refine bS ?_ GE402.out)⟩
   ·replace c16 := Bool.eq_false_iff.mpr c16
    subst c16
    have H1 : ((impl_StartState.f).bind fun bt405 => ((impl_Meander_steps.f kj2 l0_0 l0_1).bind fun t413 => (if 0 ≤ a1 then (if a1 ≤ (t413.length : Int) then ((some (t413.take (a1 : Int).toNat : List Int)).bind fun y416 => (impl_StateBehind.l0 kj2 y416 (y416.length : Int) 0 bt405.1 bt405.2.1 bt405.2.2)) else (none)) else (none)))) = some (r1, r2, r3, r4) := by rw [if_neg (show ¬ (false = true) by decide)] at H; exact H
    clear H
    have H := H1
    clear H1
    replace H := Option.bind_eq_some_iff.mp H
    obtain ⟨⟨t405, t408, t411⟩, A190, H⟩ := H
    replace H : ((impl_Meander_steps.f kj2 l0_0 l0_1).bind fun t413 => (if 0 ≤ a1 then (if a1 ≤ (t413.length : Int) then ((some (t413.take (a1 : Int).toNat : List Int)).bind fun y416 => (impl_StateBehind.l0 kj2 y416 (y416.length : Int) 0 t405 t408 t411)) else (none)) else (none))) = some (r1, r2, r3, r4) := H
    have A19 := am A190
    clear A190
    replace H := Option.bind_eq_some_iff.mp H
    obtain ⟨t413, A200, H⟩ := H
    replace H : (if 0 ≤ a1 then (if a1 ≤ (t413.length : Int) then ((some (t413.take (a1 : Int).toNat : List Int)).bind fun y416 => (impl_StateBehind.l0 kj2 y416 (y416.length : Int) 0 t405 t408 t411)) else (none)) else (none)) = some (r1, r2, r3, r4) := H
    have A20 := am A200
    clear A200
    by_cases c21 : 0 ≤ a1
    ·rw [if_pos c21] at H
     have c21b0 := eq_true c21
     have c21b1 : decide (0 ≤ a1) = true := decide_eq_true c21
     clear c21
     by_cases c22 : a1 ≤ (t413.length : Int)
     ·rw [if_pos c22] at H
      have c22b0 := eq_true c22
      have c22b1 : decide (a1 ≤ (t413.length : Int)) = true := decide_eq_true c22
      clear c22
      obtain ⟨y416, hy416⟩ : ∃ y_ : List Int, y_ = (t413.take (a1 : Int).toNat) := ⟨_, rfl⟩
      replace H : (impl_StateBehind.l0 kj2 y416 (y416.length : Int) 0 t405 t408 t411) = some (r1, r2, r3, r4) := by first | (rw [hy416]; with_reducible exact H) | (have H2_ := (Option.bind_some _ _).symm.trans H; rw [hy416]; with_reducible exact H2_) | (have H2_ := (Option.bind_some _ _).symm.trans H; with_reducible exact H2_) | with_reducible exact H | (rw [hy416]; exact H) | exact H
      have Ny416 := am hy416
      clear hy416
      have H' := am H
      clear H
      go_wp2_with (first | ((with_reducible refine gate_callee (f := 21) rfl ?_); refine goesL_ (some 21) rfl rfl Try.func21 (by kernel_rfl) rfl #[] rfl (by (try simp only [List.map_toArray, List.map_cons, List.map_nil]); first | done | rfl) ?_; (with_reducible refine (impl_StartState.calls  t405 t408 t411 _ A19.out).mono ?_); rintro e w23 ⟨v406, v409, rfl, ho0, ho1, hb⟩; refine ⟨_, rfl, ?_⟩; have HO407 := am (Kd.R_lower ho0 (below_size (by repeat (with_reducible first | exact HB.out | apply bA | apply bN | apply bD | refine bS ?_ GE401.out | refine bS ?_ GE402.out)))); have HO410 := am (Kd.R_lower ho1 (below_size (by repeat (with_reducible first | exact HB.out | apply bA | apply bN | apply bD | refine bS ?_ GE401.out | refine bS ?_ GE402.out)))); replace BK401 := am (blk_below (g := gb401) (o := .cells #[.slice A0_0 l0_0.length c0_0, .slice A0_1 l0_1.length c0_1] 30 (0, 0)) (by (with_reducible repeat (first | apply kB | apply kC | apply kE)); exact BK401.out) hb); replace BK402 := am (blk_below (g := gb402) (o := .cells #[.slice none 0 0, .slice none 0 0, .int .i64 0] 27 (0, 0)) (by (with_reducible repeat (first | apply kB | apply kC | apply kE)); exact BK402.out) hb); replace HB := am (below_step (by repeat (with_reducible first | exact HB.out | apply bA | apply bN | apply bD | refine bS ?_ GE401.out | refine bS ?_ GE402.out)) hb); (try clear hb); (try clear hb2); (try clear hk); (try clear hi); (try clear ho0); (try clear ho1)) | ((with_reducible refine gate_dst (N := 6) rfl ?_); (try (refine gate_guard (by rfl) ?_; dsimp only)); refine box_event ?hg (N := 6) ?hd (cs := #[.slice none 0 0, .slice none 0 0, .int .i64 0]) (t := 27) ?hr ?_; (case hd => rfl); (case hg => rfl); (case hr => first | (go_simp; done) | (go_simp; rfl)); intro gb412 hg w24 hbox hb; replace HO407 := am (Kd.R_below (by (with_reducible repeat (first | apply rA | apply rN | apply rD)); exact HO407.out) hb); replace HO410 := am (Kd.R_below (by (with_reducible repeat (first | apply rA | apply rN | apply rD)); exact HO410.out) hb); have BK412 := am (hbox); have GW412 := am ((by rw [hg]; exact (below_size (by repeat (with_reducible first | exact HB.out | apply bA | apply bN | apply bD | refine bS ?_ GE401.out | refine bS ?_ GE402.out))) : w.heap.size ≤ gb412)); have GE412 := am ((by rw [hg]; exact (below_size (by repeat (with_reducible first | exact HB.out | apply bA | apply bN | apply bD | refine bS ?_ GE401.out | refine bS ?_ GE402.out))) : w.heap.size ≤ gb412)); replace HB := am (below_step (by repeat (with_reducible first | exact HB.out | apply bA | apply bN | apply bD | refine bS ?_ GE401.out | refine bS ?_ GE402.out)) hb); have NB401_412 := am ((by rw [hg]; exact Nat.ne_of_lt (blk_lt (g := gb401) (o := .cells #[.slice A0_0 l0_0.length c0_0, .slice A0_1 l0_1.length c0_1] 30 (0, 0)) (by (with_reducible repeat (first | apply kB | apply kC | apply kE)); exact BK401.out)) : gb401 ≠ gb412)); have NB412_401 := am ((by rw [hg]; exact Nat.ne_of_gt (blk_lt (g := gb401) (o := .cells #[.slice A0_0 l0_0.length c0_0, .slice A0_1 l0_1.length c0_1] 30 (0, 0)) (by (with_reducible repeat (first | apply kB | apply kC | apply kE)); exact BK401.out)) : gb412 ≠ gb401)); replace BK401 := am (blk_below (g := gb401) (o := .cells #[.slice A0_0 l0_0.length c0_0, .slice A0_1 l0_1.length c0_1] 30 (0, 0)) (by (with_reducible repeat (first | apply kB | apply kC | apply kE)); exact BK401.out) hb); have NB402_412 := am ((by rw [hg]; exact Nat.ne_of_lt (blk_lt (g := gb402) (o := .cells #[.slice none 0 0, .slice none 0 0, .int .i64 0] 27 (0, 0)) (by (with_reducible repeat (first | apply kB | apply kC | apply kE)); exact BK402.out)) : gb402 ≠ gb412)); have NB412_402 := am ((by rw [hg]; exact Nat.ne_of_gt (blk_lt (g := gb402) (o := .cells #[.slice none 0 0, .slice none 0 0, .int .i64 0] 27 (0, 0)) (by (with_reducible repeat (first | apply kB | apply kC | apply kE)); exact BK402.out)) : gb412 ≠ gb402)); replace BK402 := am (blk_below (g := gb402) (o := .cells #[.slice none 0 0, .slice none 0 0, .int .i64 0] 27 (0, 0)) (by (with_reducible repeat (first | apply kB | apply kC | apply kE)); exact BK402.out) hb); clear hb hbox hg; obtain ⟨Ao25, co25, eo25⟩ := Kd.R_slice HO407.out; subst eo25; have hnb26 := NB412_401.out; have hnc26 := NB401_412.out; have hnb27 := NB412_402.out; have hnc27 := NB402_412.out; have hcz28_0 : w24.cell? ⟨gb412, 0, none⟩ = some (.slice none 0 0) := (blk_cell BK412.out 0).trans rfl; have hcz28_1 : w24.cell? ⟨gb412, 1, none⟩ = some (.slice none 0 0) := (blk_cell BK412.out 1).trans rfl; have hcz28_2 : w24.cell? ⟨gb412, 2, none⟩ = some (.int .i64 0) := (blk_cell BK412.out 2).trans rfl; have hfz28_0 := blk_frozen BK412.out 0; have hfz28_1 := blk_frozen BK412.out 1; have hfz28_2 := blk_frozen BK412.out 2; obtain ⟨Ao29, co29, eo29⟩ := Kd.R_slice HO410.out; subst eo29; have hnb30 := NB401_402.out; have hnc30 := NB402_401.out; have hcz31_0 : w24.cell? ⟨gb401, 0, none⟩ = some (.slice A0_0 l0_0.length c0_0) := (blk_cell BK401.out 0).trans rfl; have hcz31_1 : w24.cell? ⟨gb401, 1, none⟩ = some (.slice A0_1 l0_1.length c0_1) := (blk_cell BK401.out 1).trans rfl; have hfz31_0 := blk_frozen BK401.out 0; have hfz31_1 := blk_frozen BK401.out 1) | ((with_reducible refine gate_callee (f := 22) rfl ?_); refine goesL_ (some 23) rfl rfl Try.func22 (by kernel_rfl) rfl #[.agg #[.slice A0_0 l0_0.length c0_0, .slice A0_1 l0_1.length c0_1]] rfl (by (try simp only [List.map_toArray, List.map_cons, List.map_nil]); first | done | rfl) ?_; (with_reducible refine (impl_Meander_steps.calls kj2 _ _ l0_0 _ _ l0_1 t413 _ ?side1 ?side2 ?side3 ?side4 A20.out).mono ?_); (case side1 => exact Kd.C_below HR0_0.out (by repeat (with_reducible first | exact HB.out | apply bA | apply bN | apply bD | refine bS ?_ GE401.out | refine bS ?_ GE402.out | refine bS ?_ GE412.out))); (case side2 => exact HC0_0.out); (case side3 => exact Kd.C_below HR0_1.out (by repeat (with_reducible first | exact HB.out | apply bA | apply bN | apply bD | refine bS ?_ GE401.out | refine bS ?_ GE402.out | refine bS ?_ GE412.out))); (case side4 => exact HC0_1.out); rintro e w32 ⟨v414, rfl, ho0, hb⟩; refine ⟨_, rfl, ?_⟩; have HO415 := am (Kd.R_lower (Kd.R_new' (Kd.R_new' ho0 (Kd.R_lt (by (with_reducible repeat (first | apply rA | apply rN | apply rD)); exact (Kd.R_mono (Kd.R_far (p := ⟨gb412, 2, none⟩) (Kd.R_far (p := ⟨gb412, 1, none⟩) (Kd.R_far (p := ⟨gb412, 0, none⟩) (Kd.R_types HO407.out BK412.out (by decide)) (fun _ hk => hk.2) (.slice Ao25 t405.length co25)) (fun _ hk => hk.2) (.slice Ao29 t408.length co29)) (fun _ hk => hk.2) (.int .i64 t411)) (fun _ h_ => h_.1))))) (Kd.R_lt (by (with_reducible repeat (first | apply rA | apply rN | apply rD)); exact (Kd.R_mono (Kd.R_far (p := ⟨gb412, 2, none⟩) (Kd.R_far (p := ⟨gb412, 1, none⟩) (Kd.R_far (p := ⟨gb412, 0, none⟩) (Kd.R_types HO410.out BK412.out (by decide)) (fun _ hk => hk.2) (.slice Ao25 t405.length co25)) (fun _ hk => hk.2) (.slice Ao29 t408.length co29)) (fun _ hk => hk.2) (.int .i64 t411)) (fun _ h_ => h_.1))))) (below_size (by repeat (with_reducible first | exact HB.out | apply bA | apply bN | apply bD | refine bS ?_ GE401.out | refine bS ?_ GE402.out | refine bS ?_ GE412.out)))); replace HO407 := am (Kd.R_elder' (by (with_reducible repeat (first | apply rA | apply rN | apply rD)); exact (Kd.R_mono (Kd.R_far (p := ⟨gb412, 2, none⟩) (Kd.R_far (p := ⟨gb412, 1, none⟩) (Kd.R_far (p := ⟨gb412, 0, none⟩) (Kd.R_types HO407.out BK412.out (by decide)) (fun _ hk => hk.2) (.slice Ao25 t405.length co25)) (fun _ hk => hk.2) (.slice Ao29 t408.length co29)) (fun _ hk => hk.2) (.int .i64 t411)) (fun _ h_ => h_.1))) (Kd.R_base ho0) hb); replace HO410 := am (Kd.R_elder' (by (with_reducible repeat (first | apply rA | apply rN | apply rD)); exact (Kd.R_mono (Kd.R_far (p := ⟨gb412, 2, none⟩) (Kd.R_far (p := ⟨gb412, 1, none⟩) (Kd.R_far (p := ⟨gb412, 0, none⟩) (Kd.R_types HO410.out BK412.out (by decide)) (fun _ hk => hk.2) (.slice Ao25 t405.length co25)) (fun _ hk => hk.2) (.slice Ao29 t408.length co29)) (fun _ hk => hk.2) (.int .i64 t411)) (fun _ h_ => h_.1))) (Kd.R_base ho0) hb); replace BK401 := am (blk_below (g := gb401) (o := .cells #[.slice A0_0 l0_0.length c0_0, .slice A0_1 l0_1.length c0_1] 30 (0, 0)) (by (with_reducible repeat (first | apply kB | apply kC | apply kE)); refine blk_far ?_ NB401_412.out _; (with_reducible repeat (first | apply kB | apply kC | apply kE)); refine blk_far ?_ NB401_412.out _; (with_reducible repeat (first | apply kB | apply kC | apply kE)); refine blk_far ?_ NB401_412.out _; (with_reducible repeat (first | apply kB | apply kC | apply kE)); exact BK401.out) hb); replace BK402 := am (blk_below (g := gb402) (o := .cells #[.slice none 0 0, .slice none 0 0, .int .i64 0] 27 (0, 0)) (by (with_reducible repeat (first | apply kB | apply kC | apply kE)); refine blk_far ?_ NB402_412.out _; (with_reducible repeat (first | apply kB | apply kC | apply kE)); refine blk_far ?_ NB402_412.out _; (with_reducible repeat (first | apply kB | apply kC | apply kE)); refine blk_far ?_ NB402_412.out _; (with_reducible repeat (first | apply kB | apply kC | apply kE)); exact BK402.out) hb); replace BK412 := am (blk_below (g := gb412) (o := .cells #[.slice Ao25 t405.length co25, .slice Ao29 t408.length co29, .int .i64 t411] 27 (0, 0)) (by (with_reducible repeat (first | apply kB | apply kC | apply kE)); refine blk_put (cs := #[.slice Ao25 t405.length co25, .slice Ao29 t408.length co29, .int .i64 0]) ?_ 2 _ rfl; (with_reducible repeat (first | apply kB | apply kC | apply kE)); refine blk_put (cs := #[.slice Ao25 t405.length co25, .slice none 0 0, .int .i64 0]) ?_ 1 _ rfl; (with_reducible repeat (first | apply kB | apply kC | apply kE)); refine blk_put (cs := #[.slice none 0 0, .slice none 0 0, .int .i64 0]) ?_ 0 _ rfl; (with_reducible repeat (first | apply kB | apply kC | apply kE)); exact BK412.out) hb); replace HB := am (below_step (by repeat (with_reducible first | exact HB.out | apply bA | apply bN | apply bD | refine bS ?_ GE401.out | refine bS ?_ GE402.out | refine bS ?_ GE412.out)) hb); (try clear hb); (try clear hb2); (try clear hk); (try clear hi); (try clear ho0); obtain ⟨Ao33, co33, eo33⟩ := Kd.R_slice HO415.out; subst eo33; have q34 : (a1 : Int) ≤ ((t413.length : Int) : Int) := of_decide_eq_true (by assumption); obtain ⟨i034, hi034, _, hsz34, _⟩ := info_parts info3; have hcut34 := cut_to (P := Try.prog) 22 3 .i64 Try.underlying22 hi034 Ao33 t413.length co33 a1 (of_decide_eq_true (by assumption)) q34 (Kd.R_reads' HO415.out).2.1; have hr34 := Kd.R_take (m := (a1 : Int).toNat) HO415.out (by omega); have hy34 : y416.length = (a1 : Int).toNat := (by rw [Ny416.out, List.length_take]; omega); rw [← Ny416.out] at hr34; rw [← hy34] at hr34 hcut34; clear hy34 hi034 hsz34 HO415; have HO418 := am hr34; clear hr34; replace q34 := eq_true q34))
      go_loopg [27] kj2 (fun kq v27 w' => ∃ (x27_2 : Int) (x413000_2 : List Int) (x413001_2 : List Int) (x413002_2 : Int) (u413000 : Value) (u413001 : Value), v27 = .int .i64 x27_2 ∧ Aside0 (impl_StateBehind.l0 kq y416 (y416.length : Int) x27_2 x413000_2 x413001_2 x413002_2 = some (r1, r2, r3, r4)) ∧ Aside0 (kq ≤ kj2) ∧ Aside0 (Kd.R (Kd.int .i64) 3 w' w.heap.size (fun k_ => some k_ ≠ (u413000 : Value).ownBlock ∧ some k_ ≠ (u413001 : Value).ownBlock) (.slice Ao33 y416.length co33) y416) ∧ Aside0 (Kd.R (Kd.int .i64) 3 w' w.heap.size (fun k_ => some k_ ≠ ((.slice Ao33 y416.length co33) : Value).ownBlock ∧ some k_ ≠ (u413001 : Value).ownBlock) u413000 x413000_2) ∧ Aside0 (Kd.R (Kd.int .i64) 3 w' w.heap.size (fun k_ => some k_ ≠ ((.slice Ao33 y416.length co33) : Value).ownBlock ∧ some k_ ≠ (u413000 : Value).ownBlock) u413001 x413001_2) ∧ Aside0 (w'.heap[gb401]? = some (.cells #[(.slice A0_0 l0_0.length c0_0), (.slice A0_1 l0_1.length c0_1)] 30 (0, 0))) ∧ Aside0 (w'.heap[gb402]? = some (.cells #[(.slice none 0 0), (.slice none 0 0), .int .i64 0] 27 (0, 0))) ∧ Aside0 (w'.heap[gb412]? = some (.cells #[u413000, u413001, .int .i64 x413002_2] 27 (0, 0))) ∧ Aside0 (Below w.heap.size w w'))
      case atStart => exact ⟨(0), (t405), (t408), (t411), (.slice Ao25 t405.length co25), (.slice Ao29 t408.length co29), (by first | rfl | (simp; done) | (simp [*]; done)), H', ⟨Nat.le_refl _⟩, ⟨by (with_reducible repeat (first | apply rA | apply rN | apply rD)); exact Kd.R_mono HO418.out (fun _ hk => ⟨hk.1.2, hk.2⟩)⟩, ⟨by (with_reducible repeat (first | apply rA | apply rN | apply rD)); exact Kd.R_mono HO407.out (fun _ hk => ⟨(by first | exact hk.2 | (rw [own_len _ y416.length t413.length]; exact hk.2)), hk.1⟩)⟩, ⟨by (with_reducible repeat (first | apply rA | apply rN | apply rD)); exact Kd.R_mono HO410.out (fun _ hk => ⟨(by first | exact hk.2 | (rw [own_len _ y416.length t413.length]; exact hk.2)), hk.1⟩)⟩, ⟨by (with_reducible repeat (first | apply kB | apply kC | apply kE)); exact BK401.out⟩, ⟨by (with_reducible repeat (first | apply kB | apply kC | apply kE)); exact BK402.out⟩, ⟨by (with_reducible repeat (first | apply kB | apply kC | apply kE)); exact BK412.out⟩, ⟨by repeat (with_reducible first | exact HB.out | apply bA | apply bN | apply bD | refine bS ?_ GE401.out | refine bS ?_ GE402.out | refine bS ?_ GE412.out)⟩⟩
      case round =>
       clear H'
       try clear p2
       try clear q3
       try clear q34
       try clear hcz10_0
       try clear hcz10_1
       try clear hcz12_0
       try clear hcz12_1
       try clear hcz14_0
       try clear hcz14_1
       try clear hcz18_0
       try clear hcz18_1
       try clear hcz18_2
       try clear hcz28_0
       try clear hcz28_1
       try clear hcz28_2
       try clear hcz31_0
       try clear hcz31_1
       try clear hfz10_0
       try clear hfz10_1
       try clear hfz12_0
       try clear hfz12_1
       try clear hfz14_0
       try clear hfz14_1
       try clear hfz18_0
       try clear hfz18_1
       try clear hfz18_2
       try clear hfz28_0
       try clear hfz28_1
       try clear hfz28_2
       try clear hfz31_0
       try clear hfz31_1
       try clear p2
       try clear q34
       obtain ⟨x27_2, x413000_2, x413001_2, x413002_2, u413000, u413001, rfl, HA, HK2, HO_25, HO_413000, HO_413001, BK401, BK402, BK412, HB⟩ := hrel
       cases gk with
       | zero => exact absurd HA.out (by simp [impl_StateBehind.l0])
       | succ k2 =>
        have H := HA.out
        clear HA
        simp only [impl_StateBehind.l0] at H
        by_cases c35 : x27_2 < (y416.length : Int)
        ·rw [if_pos c35] at H
         have c35b0 : decide (x27_2 < (y416.length : Int)) = true := decide_eq_true c35
         clear c35
         by_cases c36 : 0 ≤ x27_2
         ·rw [if_pos c36] at H
          have c36b0 : decide (0 ≤ x27_2) = true := decide_eq_true c36
          clear c36
          by_cases c37 : x27_2 < (y416.length : Int)
          ·rw [if_pos c37] at H
           have c37b0 : decide (x27_2 < (y416.length : Int)) = true := decide_eq_true c37
           clear c37
           replace H := Option.bind_eq_some_iff.mp H
           obtain ⟨⟨t420, t423, t426, t427⟩, A380, H⟩ := H
           replace H : (impl_StateBehind.l0 k2 y416 (y416.length : Int) (wrap64 (x27_2 + 1)) t420 t423 t426) = some (r1, r2, r3, r4) := H
           have A38 := am A380
           clear A380
           have H' := am H
           clear H
           have p419 : 0 ≤ (x27_2 : Int) := of_decide_eq_true (by assumption)
           have q419 : x27_2 < (y416.length : Int) := of_decide_eq_true (by assumption)
           obtain ⟨ad419, e419, hx419_0⟩ := Kd.at_int (Kd.R_reads' HO_25.out).2.2 x27_2 p419 q419
           cases e419
           replace p419 := eq_true p419
           replace q419 := eq_true q419
           have hnb39 := NB412_401.out
           have hnc39 := NB401_412.out
           have hnb40 := NB412_402.out
           have hnc40 := NB402_412.out
           have hcz41_0 : wr.cell? ⟨gb412, 0, none⟩ = some (u413000) := (blk_cell BK412.out 0).trans rfl
           have hcz41_1 : wr.cell? ⟨gb412, 1, none⟩ = some (u413001) := (blk_cell BK412.out 1).trans rfl
           have hcz41_2 : wr.cell? ⟨gb412, 2, none⟩ = some (.int .i64 x413002_2) := (blk_cell BK412.out 2).trans rfl
           have hfz41_0 := blk_frozen BK412.out 0
           have hfz41_1 := blk_frozen BK412.out 1
           have hfz41_2 := blk_frozen BK412.out 2
           obtain ⟨Ao42, co42, eo42⟩ := Kd.R_slice HO_413000.out
           subst eo42
           obtain ⟨Ao43, co43, eo43⟩ := Kd.R_slice HO_413001.out
           subst eo43
           go_wp2_with (first | ((with_reducible refine gate_callee (f := 23) rfl ?_); refine goesL_ (some 34) rfl rfl Try.func23 (by kernel_rfl) rfl #[.agg #[.slice Ao42 x413000_2.length co42, .slice Ao43 x413001_2.length co43, .int .i64 x413002_2], .int .i64 (rd y416 x27_2)] rfl (by (try simp only [List.map_toArray, List.map_cons, List.map_nil]); first | done | rfl) ?_; (with_reducible refine (impl_State_stepped.calls k2 _ _ x413000_2 _ _ x413001_2 x413002_2 (rd y416 x27_2) t420 t423 t426 t427 _ ?side1 ?side2 ?side3 ?side4 A38.out).mono ?_); (case side1 => repeat (first | exact (Kd.R_reads' HO_413000.out).2.2 | (with_reducible first | apply cA | apply cN | apply cD))); (case side2 => exact (Kd.R_reads' HO_413000.out).2.1); (case side3 => repeat (first | exact (Kd.R_reads' HO_413001.out).2.2 | (with_reducible first | apply cA | apply cN | apply cD))); (case side4 => exact (Kd.R_reads' HO_413001.out).2.1); rintro e w44 ⟨v421, v424, rfl, ho0, ho1, hb⟩; refine ⟨_, rfl, ?_⟩; have HO422 := am (Kd.R_lower (Kd.R_new' (Kd.R_new' (Kd.R_new' ho0 (Kd.R_lt (by (with_reducible repeat (first | apply rA | apply rN | apply rD)); exact HO_25.out))) (Kd.R_lt (by (with_reducible repeat (first | apply rA | apply rN | apply rD)); exact HO_413000.out))) (Kd.R_lt (by (with_reducible repeat (first | apply rA | apply rN | apply rD)); exact HO_413001.out))) (below_size (by repeat (with_reducible first | exact HB.out | apply bA | apply bN | apply bD | refine bS ?_ GE401.out | refine bS ?_ GE402.out | refine bS ?_ GE412.out)))); have HO425 := am (Kd.R_lower (Kd.R_new' (Kd.R_new' (Kd.R_new' ho1 (Kd.R_lt (by (with_reducible repeat (first | apply rA | apply rN | apply rD)); exact HO_25.out))) (Kd.R_lt (by (with_reducible repeat (first | apply rA | apply rN | apply rD)); exact HO_413000.out))) (Kd.R_lt (by (with_reducible repeat (first | apply rA | apply rN | apply rD)); exact HO_413001.out))) (below_size (by repeat (with_reducible first | exact HB.out | apply bA | apply bN | apply bD | refine bS ?_ GE401.out | refine bS ?_ GE402.out | refine bS ?_ GE412.out)))); replace HO_25 := am (Kd.R_mono (Kd.R_told (Kd.R_told (Kd.R_old (by (with_reducible repeat (first | apply rA | apply rN | apply rD)); exact HO_25.out) hb) (Kd.R_base ho0)) (Kd.R_base ho1)) (fun _ h_ => h_.1)); replace HO_413000 := am (Kd.R_mono (Kd.R_told (Kd.R_told (Kd.R_old (by (with_reducible repeat (first | apply rA | apply rN | apply rD)); exact HO_413000.out) hb) (Kd.R_base ho0)) (Kd.R_base ho1)) (fun _ h_ => h_.1)); replace HO_413001 := am (Kd.R_mono (Kd.R_told (Kd.R_told (Kd.R_old (by (with_reducible repeat (first | apply rA | apply rN | apply rD)); exact HO_413001.out) hb) (Kd.R_base ho0)) (Kd.R_base ho1)) (fun _ h_ => h_.1)); replace BK401 := am (blk_below (g := gb401) (o := .cells #[.slice A0_0 l0_0.length c0_0, .slice A0_1 l0_1.length c0_1] 30 (0, 0)) (by (with_reducible repeat (first | apply kB | apply kC | apply kE)); exact BK401.out) hb); replace BK402 := am (blk_below (g := gb402) (o := .cells #[.slice none 0 0, .slice none 0 0, .int .i64 0] 27 (0, 0)) (by (with_reducible repeat (first | apply kB | apply kC | apply kE)); exact BK402.out) hb); replace BK412 := am (blk_below (g := gb412) (o := .cells #[.slice Ao42 x413000_2.length co42, .slice Ao43 x413001_2.length co43, .int .i64 x413002_2] 27 (0, 0)) (by (with_reducible repeat (first | apply kB | apply kC | apply kE)); exact BK412.out) hb); replace HB := am (below_step (by repeat (with_reducible first | exact HB.out | apply bA | apply bN | apply bD | refine bS ?_ GE401.out | refine bS ?_ GE402.out | refine bS ?_ GE412.out)) hb); (try clear hb); (try clear hb2); (try clear hk); (try clear hi); (try clear ho0); (try clear ho1); obtain ⟨Ao45, co45, eo45⟩ := Kd.R_slice HO422.out; subst eo45; have hcz46_0 : w44.cell? ⟨gb412, 0, none⟩ = some (.slice Ao42 x413000_2.length co42) := (blk_cell BK412.out 0).trans rfl; have hcz46_1 : w44.cell? ⟨gb412, 1, none⟩ = some (.slice Ao43 x413001_2.length co43) := (blk_cell BK412.out 1).trans rfl; have hcz46_2 : w44.cell? ⟨gb412, 2, none⟩ = some (.int .i64 x413002_2) := (blk_cell BK412.out 2).trans rfl; have hfz46_0 := blk_frozen BK412.out 0; have hfz46_1 := blk_frozen BK412.out 1; have hfz46_2 := blk_frozen BK412.out 2; obtain ⟨Ao47, co47, eo47⟩ := Kd.R_slice HO425.out; subst eo47))
           go_roundg k2
           case measure => have := HJ2.out; have := HK2.out; omega
           case rel => exact ⟨(wrap64 (x27_2 + 1)), (t420), (t423), (t426), (.slice Ao45 t420.length co45), (.slice Ao47 t423.length co47), (by first | rfl | (simp; done) | (simp [*]; done)), H', ⟨by have := HJ2.out; have := HK2.out; omega⟩, ⟨by (with_reducible repeat (first | apply rA | apply rN | apply rD)); exact Kd.R_mono (Kd.R_far (p := ⟨gb412, 2, none⟩) (Kd.R_far (p := ⟨gb412, 1, none⟩) (Kd.R_far (p := ⟨gb412, 0, none⟩) (Kd.R_types HO_25.out BK412.out (by decide)) (fun _ hk => hk.2) (.slice Ao45 t420.length co45)) (fun _ hk => hk.2) (.slice Ao47 t423.length co47)) (fun _ hk => hk.2) (.int .i64 t426)) (fun _ hk => ⟨hk.1.1.2, hk.1.2⟩)⟩, ⟨by (with_reducible repeat (first | apply rA | apply rN | apply rD)); exact Kd.R_mono (Kd.R_far (p := ⟨gb412, 2, none⟩) (Kd.R_far (p := ⟨gb412, 1, none⟩) (Kd.R_far (p := ⟨gb412, 0, none⟩) (Kd.R_types HO422.out BK412.out (by decide)) (fun _ hk => hk.2) (.slice Ao45 t420.length co45)) (fun _ hk => hk.2) (.slice Ao47 t423.length co47)) (fun _ hk => hk.2) (.int .i64 t426)) (fun _ hk => ⟨hk.1.1.1.2, hk.1.1.1.1⟩)⟩, ⟨by (with_reducible repeat (first | apply rA | apply rN | apply rD)); exact Kd.R_mono (Kd.R_far (p := ⟨gb412, 2, none⟩) (Kd.R_far (p := ⟨gb412, 1, none⟩) (Kd.R_far (p := ⟨gb412, 0, none⟩) (Kd.R_types HO425.out BK412.out (by decide)) (fun _ hk => hk.2) (.slice Ao45 t420.length co45)) (fun _ hk => hk.2) (.slice Ao47 t423.length co47)) (fun _ hk => hk.2) (.int .i64 t426)) (fun _ hk => ⟨hk.1.1.1.2, hk.1.1.1.1⟩)⟩, ⟨by (with_reducible repeat (first | apply kB | apply kC | apply kE)); refine blk_far ?_ NB401_412.out _; (with_reducible repeat (first | apply kB | apply kC | apply kE)); refine blk_far ?_ NB401_412.out _; (with_reducible repeat (first | apply kB | apply kC | apply kE)); refine blk_far ?_ NB401_412.out _; (with_reducible repeat (first | apply kB | apply kC | apply kE)); exact BK401.out⟩, ⟨by (with_reducible repeat (first | apply kB | apply kC | apply kE)); refine blk_far ?_ NB402_412.out _; (with_reducible repeat (first | apply kB | apply kC | apply kE)); refine blk_far ?_ NB402_412.out _; (with_reducible repeat (first | apply kB | apply kC | apply kE)); refine blk_far ?_ NB402_412.out _; (with_reducible repeat (first | apply kB | apply kC | apply kE)); exact BK402.out⟩, ⟨by (with_reducible repeat (first | apply kB | apply kC | apply kE)); refine blk_put (cs := #[.slice Ao45 t420.length co45, .slice Ao47 t423.length co47, .int .i64 x413002_2]) ?_ 2 _ rfl; (with_reducible repeat (first | apply kB | apply kC | apply kE)); refine blk_put (cs := #[.slice Ao45 t420.length co45, .slice Ao43 x413001_2.length co43, .int .i64 x413002_2]) ?_ 1 _ rfl; (with_reducible repeat (first | apply kB | apply kC | apply kE)); refine blk_put (cs := #[.slice Ao42 x413000_2.length co42, .slice Ao43 x413001_2.length co43, .int .i64 x413002_2]) ?_ 0 _ rfl; (with_reducible repeat (first | apply kB | apply kC | apply kE)); exact BK412.out⟩, ⟨by repeat (with_reducible first | exact HB.out | apply bA | apply bN | apply bD | refine bS ?_ GE401.out | refine bS ?_ GE402.out | refine bS ?_ GE412.out)⟩⟩
          ·rw [if_neg c37] at H
           exact absurd H (by simp)
         ·rw [if_neg c36] at H
          exact absurd H (by simp)
        ·rw [if_neg c35] at H
         have c35b0 : decide (x27_2 < (y416.length : Int)) = false := decide_eq_false c35
         clear c35
         simp only [Option.some.injEq, Prod.mk.injEq] at H
         obtain ⟨rfl, rfl, rfl, rfl⟩ := H
         have hnb48 := NB412_401.out
         have hnc48 := NB401_412.out
         have hnb49 := NB412_402.out
         have hnc49 := NB402_412.out
         have hcz50_0 : wr.cell? ⟨gb412, 0, none⟩ = some (u413000) := (blk_cell BK412.out 0).trans rfl
         have hcz50_1 : wr.cell? ⟨gb412, 1, none⟩ = some (u413001) := (blk_cell BK412.out 1).trans rfl
         have hcz50_2 : wr.cell? ⟨gb412, 2, none⟩ = some (.int .i64 x413002_2) := (blk_cell BK412.out 2).trans rfl
         have hfz50_0 := blk_frozen BK412.out 0
         have hfz50_1 := blk_frozen BK412.out 1
         have hfz50_2 := blk_frozen BK412.out 2
         obtain ⟨Ao51, co51, eo51⟩ := Kd.R_slice HO_413000.out
         subst eo51
         have hnb52 := NB402_401.out
         have hnc52 := NB401_402.out
         have hcz53_0 : wr.cell? ⟨gb402, 0, none⟩ = some (.slice none 0 0) := (blk_cell BK402.out 0).trans rfl
         have hcz53_1 : wr.cell? ⟨gb402, 1, none⟩ = some (.slice none 0 0) := (blk_cell BK402.out 1).trans rfl
         have hcz53_2 : wr.cell? ⟨gb402, 2, none⟩ = some (.int .i64 0) := (blk_cell BK402.out 2).trans rfl
         have hfz53_0 := blk_frozen BK402.out 0
         have hfz53_1 := blk_frozen BK402.out 1
         have hfz53_2 := blk_frozen BK402.out 2
         obtain ⟨Ao54, co54, eo54⟩ := Kd.R_slice HO_413001.out
         subst eo54
         go_wp2
         refine bodyPost_ret (results_ct rfl _ _ gb402 27 #[.slice Ao51 x413000_2.length co51, .slice Ao54 x413001_2.length co54, .int .i64 x413002_2] (0, 0) _ rfl (by (with_reducible repeat (first | apply kB | apply kC | apply kE)); refine blk_put (cs := #[.slice Ao51 x413000_2.length co51, .slice Ao54 x413001_2.length co54, .int .i64 0]) ?_ 2 _ rfl; (with_reducible repeat (first | apply kB | apply kC | apply kE)); refine blk_put (cs := #[.slice Ao51 x413000_2.length co51, .slice none 0 0, .int .i64 0]) ?_ 1 _ rfl; (with_reducible repeat (first | apply kB | apply kC | apply kE)); refine blk_put (cs := #[.slice none 0 0, .slice none 0 0, .int .i64 0]) ?_ 0 _ rfl; (with_reducible repeat (first | apply kB | apply kC | apply kE)); exact BK402.out) Try.underlying27 rfl (by kernel_rfl)) rfl ?_
         exact ⟨_, _, by first | rfl | (simp [*, errW_none, errW_some] <;> rfl), by (with_reducible repeat (first | apply rA | apply rN | apply rD)); exact Kd.R_mono (Kd.R_far (p := ⟨gb402, 2, none⟩) (Kd.R_far (p := ⟨gb402, 1, none⟩) (Kd.R_far (p := ⟨gb402, 0, none⟩) (Kd.R_types HO_413000.out BK402.out (by decide)) (fun _ hk => hk.2) (.slice Ao51 x413000_2.length co51)) (fun _ hk => hk.2) (.slice Ao54 x413001_2.length co54)) (fun _ hk => hk.2) (.int .i64 x413002_2)) (fun _ hk => hk.1.2), by (with_reducible repeat (first | apply rA | apply rN | apply rD)); exact Kd.R_mono (Kd.R_far (p := ⟨gb402, 2, none⟩) (Kd.R_far (p := ⟨gb402, 1, none⟩) (Kd.R_far (p := ⟨gb402, 0, none⟩) (Kd.R_types HO_413001.out BK402.out (by decide)) (fun _ hk => hk.2) (.slice Ao51 x413000_2.length co51)) (fun _ hk => hk.2) (.slice Ao54 x413001_2.length co54)) (fun _ hk => hk.2) (.int .i64 x413002_2)) (fun _ hk => hk.1.2), by repeat (with_reducible first | exact HB.out | apply bA | apply bN | apply bD | refine bS ?_ GE401.out | refine bS ?_ GE402.out | refine bS ?_ GE412.out)⟩
     ·rw [if_neg c22] at H
      exact absurd H (by simp)
    ·rw [if_neg c21] at H
     exact absurd H (by simp)

/-! ### laws_eqIntS: function 24 -/
def laws_eqIntS.l0 : Nat → List Int → List Int → Int → Option (Bool)
 | 0, _, _, _ => none
 | k + 1, x0, x1, x5 => if x5 < (x0.length : Int) then (if 0 ≤ x5 then (if x5 < (x1.length : Int) then (if (rd x0 x5) = (rd x1 x5) then (laws_eqIntS.l0 k x0 x1 (wrap64 (x5 + 1))) else (some false)) else (none)) else (none)) else (some true)
def laws_eqIntS.f (k : Nat) (l0 : List Int) (l1 : List Int) : Option (Bool) := if (l0.length : Int) = (l1.length : Int) then (laws_eqIntS.l0 k l0 l1 0) else (some false)
theorem laws_eqIntS.mono_l : ∀ k, (∀ y0 y1 y2, LeO (laws_eqIntS.l0 k y0 y1 y2) (laws_eqIntS.l0 (k + 1) y0 y1 y2))
 | 0 => fun _ _ _ r h => by simp [laws_eqIntS.l0] at h
 | k + 1 => by
  have ih0 := laws_eqIntS.mono_l k
  ·intro y0 y1 y2
   unfold laws_eqIntS.l0
   repeat' first
    | (with_reducible first | exact ih0 _ _ _ | exact LeO.refl _ | exact LeO.none _ | refine LeO.ite ?_ ?_ | refine LeO.bind ?_ (fun _ => ?_))
    | exact LeO.none _
    | refine LeO.ite ?_ ?_
    | refine LeO.bind ?_ (fun _ => ?_)
theorem laws_eqIntS.mono : ∀ a0 a1 k, LeO (laws_eqIntS.f k a0 a1) (laws_eqIntS.f (k + 1) a0 a1) := by
 intro a0 a1 k
 have ih0 := laws_eqIntS.mono_l k
 unfold laws_eqIntS.f
 repeat' first
  | (with_reducible first | exact ih0 _ _ _ | exact LeO.refl _ | exact LeO.none _ | refine LeO.ite ?_ ?_ | refine LeO.bind ?_ (fun _ => ?_))
  | exact LeO.none _
  | refine LeO.ite ?_ ?_
  | refine LeO.bind ?_ (fun _ => ?_)
theorem laws_eqIntS.calls (k : Nat) (A0 : Option Addr) (c0 : Nat) (l0 : List Int) (A1 : Option Addr) (c1 : Nat) (l1 : List Int) (r : Bool) (w : World) (hr0 : Kd.C (Kd.int .i64) w A0 l0.length l0) (hc0 : l0.length ≤ c0) (hr1 : Kd.C (Kd.int .i64) w A1 l1.length l1) (hc1 : l1.length ≤ c1) (h : laws_eqIntS.f k l0 l1 = some r) :
  Calls Try.prog 24 #[.slice A0 l0.length c0, .slice A1 l1.length c1] w fun e w' => e = .returned (.bool r) ∧ Drawn0 w w' := by
 have HR0 := am hr0
 have HC0 := am hc0
 clear hr0 hc0
 have HR1 := am hr1
 have HC1 := am hc1
 clear hr1 hc1
 have H : (if (l0.length : Int) = (l1.length : Int) then (laws_eqIntS.l0 k l0 l1 0) else (some false)) = some r := h
 clear h
 by_cases c3 : (l0.length : Int) = (l1.length : Int)
 ·rw [if_pos c3] at H
  have c3b0 : ((l0.length : Int) == (l1.length : Int)) = true := beq_iff_eq.mpr c3
  have c3b1 : ((l0.length : Int) != (l1.length : Int)) = false := bne_eq_false_iff_eq.mpr c3
  have c3b2 : (l0.length == l1.length) = true := by first | simpa using c3 | (simp at c3 ⊢; omega)
  clear c3
  have H' := am H
  clear H
  go_enter Try.func24, Try.ntmps24
  go_wp2
  repeat (go_quiet (fail); try go_wp2)
  go_loopg [5] k (fun kq v5 w' => ∃ (x5_1 : Int), v5 = .int .i64 x5_1 ∧ Aside0 (laws_eqIntS.l0 kq l0 l1 x5_1 = some r) ∧ Aside0 (kq ≤ k) ∧ Drawn0 w w')
  case atStart => exact ⟨(0), (by first | rfl | (simp; done) | (simp [*]; done)), H', ⟨Nat.le_refl _⟩, by repeat (first | exact Drawn0.refl _ | apply Drawn0.step)⟩
  case round =>
   clear H'
   try clear p2
   obtain ⟨x5_1, rfl, HA, HK1, ⟨m1, rfl⟩⟩ := hrel
   cases gk with
   | zero => exact absurd HA.out (by simp [laws_eqIntS.l0])
   | succ k1 =>
    have H := HA.out
    clear HA
    simp only [laws_eqIntS.l0] at H
    by_cases c4 : x5_1 < (l0.length : Int)
    ·rw [if_pos c4] at H
     have c4b0 : decide (x5_1 < (l0.length : Int)) = true := decide_eq_true c4
     clear c4
     by_cases c5 : 0 ≤ x5_1
     ·rw [if_pos c5] at H
      have c5b0 : decide (0 ≤ x5_1) = true := decide_eq_true c5
      clear c5
      by_cases c6 : x5_1 < (l1.length : Int)
      ·rw [if_pos c6] at H
       have c6b0 : decide (x5_1 < (l1.length : Int)) = true := decide_eq_true c6
       clear c6
       by_cases c7 : (rd l0 x5_1) = (rd l1 x5_1)
       ·rw [if_pos c7] at H
        have c7b0 : ((rd l0 x5_1) == (rd l1 x5_1)) = true := beq_iff_eq.mpr c7
        have c7b1 : ((rd l0 x5_1) != (rd l1 x5_1)) = false := bne_eq_false_iff_eq.mpr c7
        clear c7
        have H' := am H
        clear H
        have p428 : 0 ≤ (x5_1 : Int) := of_decide_eq_true (by assumption)
        have q428 : x5_1 < (l0.length : Int) := of_decide_eq_true (by assumption)
        obtain ⟨ad428, e428, hx428_0⟩ := Kd.at_int HR0.out x5_1 p428 q428
        cases e428
        replace p428 := eq_true p428
        replace q428 := eq_true q428
        have p429 : 0 ≤ (x5_1 : Int) := of_decide_eq_true (by assumption)
        have q429 : x5_1 < (l1.length : Int) := of_decide_eq_true (by assumption)
        obtain ⟨ad429, e429, hx429_0⟩ := Kd.at_int HR1.out x5_1 p429 q429
        cases e429
        replace p429 := eq_true p429
        replace q429 := eq_true q429
        go_wp2
        repeat (go_quiet (fail); try go_wp2)
        go_roundg k1
        case measure => have := HK1.out; omega
        case rel => exact ⟨(wrap64 (x5_1 + 1)), (by first | rfl | (simp; done) | (simp [*]; done)), H', ⟨by have := HK1.out; omega⟩, by repeat (first | exact Drawn0.refl _ | apply Drawn0.step)⟩
       ·rw [if_neg c7] at H
        have c7b0 : ((rd l0 x5_1) == (rd l1 x5_1)) = false := beq_eq_false_iff_ne.mpr c7
        have c7b1 : ((rd l0 x5_1) != (rd l1 x5_1)) = true := bne_iff_ne.mpr c7
        obtain rfl := Option.some.inj H
        have p428 : 0 ≤ (x5_1 : Int) := of_decide_eq_true (by assumption)
        have q428 : x5_1 < (l0.length : Int) := of_decide_eq_true (by assumption)
        obtain ⟨ad428, e428, hx428_0⟩ := Kd.at_int HR0.out x5_1 p428 q428
        cases e428
        replace p428 := eq_true p428
        replace q428 := eq_true q428
        have p429 : 0 ≤ (x5_1 : Int) := of_decide_eq_true (by assumption)
        have q429 : x5_1 < (l1.length : Int) := of_decide_eq_true (by assumption)
        obtain ⟨ad429, e429, hx429_0⟩ := Kd.at_int HR1.out x5_1 p429 q429
        cases e429
        replace p429 := eq_true p429
        replace q429 := eq_true q429
        go_wp2
        repeat (go_quiet (fail); try go_wp2)
        go_ret
        exact ⟨by first | rfl | (simp; done) | (simp [*]; done), by repeat (first | exact Drawn0.refl _ | apply Drawn0.step)⟩
      ·rw [if_neg c6] at H
       exact absurd H (by simp)
     ·rw [if_neg c5] at H
      exact absurd H (by simp)
    ·rw [if_neg c4] at H
     have c4b0 : decide (x5_1 < (l0.length : Int)) = false := decide_eq_false c4
     clear c4
     obtain rfl := Option.some.inj H
     go_wp2
     repeat (go_quiet (fail); try go_wp2)
     go_ret
     exact ⟨by first | rfl | (simp; done) | (simp [*]; done), by repeat (first | exact Drawn0.refl _ | apply Drawn0.step)⟩
 ·rw [if_neg c3] at H
  have c3b0 : ((l0.length : Int) == (l1.length : Int)) = false := beq_eq_false_iff_ne.mpr c3
  have c3b1 : ((l0.length : Int) != (l1.length : Int)) = true := bne_iff_ne.mpr c3
  have c3b2 : (l0.length == l1.length) = false := by first | simpa using c3 | (simp at c3 ⊢; omega)
  obtain rfl := Option.some.inj H
  go_enter Try.func24, Try.ntmps24
  go_wp2
  repeat (go_quiet (fail); try go_wp2)
  go_ret
  exact ⟨by first | rfl | (simp; done) | (simp [*]; done), by repeat (first | exact Drawn0.refl _ | apply Drawn0.step)⟩

/-! ### laws_eqState: function 8 -/
def laws_eqState.f (k : Nat) (l0_0 : List Int) (l0_1 : List Int) (a0_2 : Int) (l1_0 : List Int) (l1_1 : List Int) (a1_2 : Int) : Option (Bool) := (laws_eqIntS.f k l0_0 l1_0).bind fun t432 => (if t432 = true then ((laws_eqIntS.f k l0_1 l1_1).bind fun t433 => (if t433 = true then (if a0_2 = a1_2 then (some true) else (some false)) else (some false))) else (some false))
theorem laws_eqState.mono : ∀ a0 a1 a2 a3 a4 a5 k, LeO (laws_eqState.f k a0 a1 a2 a3 a4 a5) (laws_eqState.f (k + 1) a0 a1 a2 a3 a4 a5) := by
 intro a0 a1 a2 a3 a4 a5 k
 unfold laws_eqState.f
 repeat' first
  | (with_reducible first | exact laws_eqIntS.mono _ _ _ | exact LeO.refl _ | exact LeO.none _ | refine LeO.ite ?_ ?_ | refine LeO.bind ?_ (fun _ => ?_))
  | exact LeO.none _
  | refine LeO.ite ?_ ?_
  | refine LeO.bind ?_ (fun _ => ?_)
theorem laws_eqState.calls (k : Nat) (A0_0 : Option Addr) (c0_0 : Nat) (l0_0 : List Int) (A0_1 : Option Addr) (c0_1 : Nat) (l0_1 : List Int) (a0_2 : Int) (A1_0 : Option Addr) (c1_0 : Nat) (l1_0 : List Int) (A1_1 : Option Addr) (c1_1 : Nat) (l1_1 : List Int) (a1_2 : Int) (r : Bool) (w : World) (hr0_0 : Kd.C (Kd.int .i64) w A0_0 l0_0.length l0_0) (hc0_0 : l0_0.length ≤ c0_0) (hr0_1 : Kd.C (Kd.int .i64) w A0_1 l0_1.length l0_1) (hc0_1 : l0_1.length ≤ c0_1) (hr1_0 : Kd.C (Kd.int .i64) w A1_0 l1_0.length l1_0) (hc1_0 : l1_0.length ≤ c1_0) (hr1_1 : Kd.C (Kd.int .i64) w A1_1 l1_1.length l1_1) (hc1_1 : l1_1.length ≤ c1_1) (h : laws_eqState.f k l0_0 l0_1 a0_2 l1_0 l1_1 a1_2 = some r) :
  Calls Try.prog 8 #[.agg #[.slice A0_0 l0_0.length c0_0, .slice A0_1 l0_1.length c0_1, .int .i64 a0_2], .agg #[.slice A1_0 l1_0.length c1_0, .slice A1_1 l1_1.length c1_1, .int .i64 a1_2]] w fun e w' => e = .returned (.bool r) ∧ Below w.heap.size w w' := by
 have hu27 := Try.underlying27
 have HR0_0 := am hr0_0
 have HC0_0 := am hc0_0
 clear hr0_0 hc0_0
 have HR0_1 := am hr0_1
 have HC0_1 := am hc0_1
 clear hr0_1 hc0_1
 have HR1_0 := am hr1_0
 have HC1_0 := am hc1_0
 clear hr1_0 hc1_0
 have HR1_1 := am hr1_1
 have HC1_1 := am hc1_1
 clear hr1_1 hc1_1
 have HB := am (Below.refl w.heap.size w)
 have H : ((laws_eqIntS.f k l0_0 l1_0).bind fun t432 => (if t432 = true then ((laws_eqIntS.f k l0_1 l1_1).bind fun t433 => (if t433 = true then (if a0_2 = a1_2 then (some true) else (some false)) else (some false))) else (some false))) = some r := h
 clear h
 replace H := Option.bind_eq_some_iff.mp H
 obtain ⟨t432, A30, H⟩ := H
 replace H : (if t432 = true then ((laws_eqIntS.f k l0_1 l1_1).bind fun t433 => (if t433 = true then (if a0_2 = a1_2 then (some true) else (some false)) else (some false))) else (some false)) = some r := H
 have A3 := am A30
 clear A30
 by_cases c4 : t432 = true
 ·subst c4
  have H1 : ((laws_eqIntS.f k l0_1 l1_1).bind fun t433 => (if t433 = true then (if a0_2 = a1_2 then (some true) else (some false)) else (some false))) = some r := by rw [if_pos rfl] at H; exact H
  clear H
  have H := H1
  clear H1
  replace H := Option.bind_eq_some_iff.mp H
  obtain ⟨t433, A50, H⟩ := H
  replace H : (if t433 = true then (if a0_2 = a1_2 then (some true) else (some false)) else (some false)) = some r := H
  have A5 := am A50
  clear A50
  by_cases c6 : t433 = true
  ·subst c6
   have H1 : (if a0_2 = a1_2 then (some true) else (some false)) = some r := by rw [if_pos rfl] at H; exact H
   clear H
   have H := H1
   clear H1
   by_cases c7 : a0_2 = a1_2
   ·rw [if_pos c7] at H
    have c7b0 : (a0_2 == a1_2) = true := beq_iff_eq.mpr c7
    have c7b1 : (a0_2 != a1_2) = false := bne_eq_false_iff_eq.mpr c7
    clear c7
    obtain rfl := Option.some.inj H
    go_enter Try.func8, Try.ntmps8
    go_wp2_with (first | ((with_reducible refine gate_dst (N := 2) rfl ?_); refine box_event ?hg (N := 2) ?hd (cs := #[.slice A0_0 l0_0.length c0_0, .slice A0_1 l0_1.length c0_1, .int .i64 a0_2]) (t := 27) ?hr ?_; (case hd => rfl); (case hg => rfl); (case hr => first | (go_simp; done) | (go_simp; rfl)); intro gb430 hg w8 hbox hb; have BK430 := am (hbox); have GW430 := am ((by rw [hg]; exact (below_size (by repeat (with_reducible first | exact HB.out | apply bA | apply bN | apply bD))) : w.heap.size ≤ gb430)); have GE430 := am ((by rw [hg]; exact (below_size (by repeat (with_reducible first | exact HB.out | apply bA | apply bN | apply bD))) : w.heap.size ≤ gb430)); replace HB := am (below_step (by repeat (with_reducible first | exact HB.out | apply bA | apply bN | apply bD)) hb); clear hb hbox hg) | ((with_reducible refine gate_dst (N := 3) rfl ?_); refine box_event ?hg (N := 3) ?hd (cs := #[.slice A1_0 l1_0.length c1_0, .slice A1_1 l1_1.length c1_1, .int .i64 a1_2]) (t := 27) ?hr ?_; (case hd => rfl); (case hg => rfl); (case hr => first | (go_simp; done) | (go_simp; rfl)); intro gb431 hg w9 hbox hb; have BK431 := am (hbox); have GW431 := am ((by rw [hg]; exact (below_size (by repeat (with_reducible first | exact HB.out | apply bA | apply bN | apply bD | refine bS ?_ GE430.out))) : w.heap.size ≤ gb431)); have GE431 := am ((by rw [hg]; exact (below_size (by repeat (with_reducible first | exact HB.out | apply bA | apply bN | apply bD | refine bS ?_ GE430.out))) : w.heap.size ≤ gb431)); replace HB := am (below_step (by repeat (with_reducible first | exact HB.out | apply bA | apply bN | apply bD | refine bS ?_ GE430.out)) hb); have NB430_431 := am ((by rw [hg]; exact Nat.ne_of_lt (blk_lt (g := gb430) (o := .cells #[.slice A0_0 l0_0.length c0_0, .slice A0_1 l0_1.length c0_1, .int .i64 a0_2] 27 (0, 0)) (by (with_reducible repeat (first | apply kB | apply kC | apply kE)); exact BK430.out)) : gb430 ≠ gb431)); have NB431_430 := am ((by rw [hg]; exact Nat.ne_of_gt (blk_lt (g := gb430) (o := .cells #[.slice A0_0 l0_0.length c0_0, .slice A0_1 l0_1.length c0_1, .int .i64 a0_2] 27 (0, 0)) (by (with_reducible repeat (first | apply kB | apply kC | apply kE)); exact BK430.out)) : gb431 ≠ gb430)); replace BK430 := am (blk_below (g := gb430) (o := .cells #[.slice A0_0 l0_0.length c0_0, .slice A0_1 l0_1.length c0_1, .int .i64 a0_2] 27 (0, 0)) (by (with_reducible repeat (first | apply kB | apply kC | apply kE)); exact BK430.out) hb); clear hb hbox hg; have hnb10 := NB430_431.out; have hnc10 := NB431_430.out; have hcz11_0 : w9.cell? ⟨gb430, 0, none⟩ = some (.slice A0_0 l0_0.length c0_0) := (blk_cell BK430.out 0).trans rfl; have hcz11_1 : w9.cell? ⟨gb430, 1, none⟩ = some (.slice A0_1 l0_1.length c0_1) := (blk_cell BK430.out 1).trans rfl; have hcz11_2 : w9.cell? ⟨gb430, 2, none⟩ = some (.int .i64 a0_2) := (blk_cell BK430.out 2).trans rfl; have hfz11_0 := blk_frozen BK430.out 0; have hfz11_1 := blk_frozen BK430.out 1; have hfz11_2 := blk_frozen BK430.out 2; have hcz12_0 : w9.cell? ⟨gb431, 0, none⟩ = some (.slice A1_0 l1_0.length c1_0) := (blk_cell BK431.out 0).trans rfl; have hcz12_1 : w9.cell? ⟨gb431, 1, none⟩ = some (.slice A1_1 l1_1.length c1_1) := (blk_cell BK431.out 1).trans rfl; have hcz12_2 : w9.cell? ⟨gb431, 2, none⟩ = some (.int .i64 a1_2) := (blk_cell BK431.out 2).trans rfl; have hfz12_0 := blk_frozen BK431.out 0; have hfz12_1 := blk_frozen BK431.out 1; have hfz12_2 := blk_frozen BK431.out 2) | ((with_reducible refine gate_callee (f := 24) rfl ?_); refine goesL_ (some 9) rfl rfl Try.func24 (by kernel_rfl) rfl #[.slice A0_0 l0_0.length c0_0, .slice A1_0 l1_0.length c1_0] rfl (by (try simp only [List.map_toArray, List.map_cons, List.map_nil]); first | done | rfl) ?_; (with_reducible refine (laws_eqIntS.calls k _ _ l0_0 _ _ l1_0 true _ ?side1 ?side2 ?side3 ?side4 A3.out).mono ?_); (case side1 => repeat (first | exact (Kd.C_below HR0_0.out HB.out) | (with_reducible first | apply cA | apply cN | apply cD))); (case side2 => exact HC0_0.out); (case side3 => repeat (first | exact (Kd.C_below HR1_0.out HB.out) | (with_reducible first | apply cA | apply cN | apply cD))); (case side4 => exact HC1_0.out); rintro e w' ⟨rfl, ⟨nd, rfl⟩⟩; refine ⟨_, rfl, ?_⟩) | ((with_reducible refine gate_callee (f := 24) rfl ?_); refine goesL_ (some 15) rfl rfl Try.func24 (by kernel_rfl) rfl #[.slice A0_1 l0_1.length c0_1, .slice A1_1 l1_1.length c1_1] rfl (by (try simp only [List.map_toArray, List.map_cons, List.map_nil]); first | done | rfl) ?_; (with_reducible refine (laws_eqIntS.calls k _ _ l0_1 _ _ l1_1 true _ ?side1 ?side2 ?side3 ?side4 A5.out).mono ?_); (case side1 => repeat (first | exact (Kd.C_below HR0_1.out (by repeat (with_reducible first | exact HB.out | apply bA | apply bN | apply bD | refine bS ?_ GE430.out | refine bS ?_ GE431.out))) | (with_reducible first | apply cA | apply cN | apply cD))); (case side2 => exact HC0_1.out); (case side3 => repeat (first | exact (Kd.C_below HR1_1.out (by repeat (with_reducible first | exact HB.out | apply bA | apply bN | apply bD | refine bS ?_ GE430.out | refine bS ?_ GE431.out))) | (with_reducible first | apply cA | apply cN | apply cD))); (case side4 => exact HC1_1.out); rintro e w' ⟨rfl, ⟨nd, rfl⟩⟩; refine ⟨_, rfl, ?_⟩))
    go_ret
    exact ⟨by first | rfl | (simp [*, errW_none, errW_some] <;> rfl), by repeat (with_reducible first | exact HB.out | apply bA | apply bN | apply bD | refine bS ?_ GE430.out | refine bS ?_ GE431.out)⟩
   ·rw [if_neg c7] at H
    have c7b0 : (a0_2 == a1_2) = false := beq_eq_false_iff_ne.mpr c7
    have c7b1 : (a0_2 != a1_2) = true := bne_iff_ne.mpr c7
    obtain rfl := Option.some.inj H
    go_enter Try.func8, Try.ntmps8
    go_wp2_with (first | ((with_reducible refine gate_dst (N := 2) rfl ?_); refine box_event ?hg (N := 2) ?hd (cs := #[.slice A0_0 l0_0.length c0_0, .slice A0_1 l0_1.length c0_1, .int .i64 a0_2]) (t := 27) ?hr ?_; (case hd => rfl); (case hg => rfl); (case hr => first | (go_simp; done) | (go_simp; rfl)); intro gb430 hg w13 hbox hb; have BK430 := am (hbox); have GW430 := am ((by rw [hg]; exact (below_size (by repeat (with_reducible first | exact HB.out | apply bA | apply bN | apply bD))) : w.heap.size ≤ gb430)); have GE430 := am ((by rw [hg]; exact (below_size (by repeat (with_reducible first | exact HB.out | apply bA | apply bN | apply bD))) : w.heap.size ≤ gb430)); replace HB := am (below_step (by repeat (with_reducible first | exact HB.out | apply bA | apply bN | apply bD)) hb); clear hb hbox hg) | ((with_reducible refine gate_dst (N := 3) rfl ?_); refine box_event ?hg (N := 3) ?hd (cs := #[.slice A1_0 l1_0.length c1_0, .slice A1_1 l1_1.length c1_1, .int .i64 a1_2]) (t := 27) ?hr ?_; (case hd => rfl); (case hg => rfl); (case hr => first | (go_simp; done) | (go_simp; rfl)); intro gb431 hg w14 hbox hb; have BK431 := am (hbox); have GW431 := am ((by rw [hg]; exact (below_size (by repeat (with_reducible first | exact HB.out | apply bA | apply bN | apply bD | refine bS ?_ GE430.out))) : w.heap.size ≤ gb431)); have GE431 := am ((by rw [hg]; exact (below_size (by repeat (with_reducible first | exact HB.out | apply bA | apply bN | apply bD | refine bS ?_ GE430.out))) : w.heap.size ≤ gb431)); replace HB := am (below_step (by repeat (with_reducible first | exact HB.out | apply bA | apply bN | apply bD | refine bS ?_ GE430.out)) hb); have NB430_431 := am ((by rw [hg]; exact Nat.ne_of_lt (blk_lt (g := gb430) (o := .cells #[.slice A0_0 l0_0.length c0_0, .slice A0_1 l0_1.length c0_1, .int .i64 a0_2] 27 (0, 0)) (by (with_reducible repeat (first | apply kB | apply kC | apply kE)); exact BK430.out)) : gb430 ≠ gb431)); have NB431_430 := am ((by rw [hg]; exact Nat.ne_of_gt (blk_lt (g := gb430) (o := .cells #[.slice A0_0 l0_0.length c0_0, .slice A0_1 l0_1.length c0_1, .int .i64 a0_2] 27 (0, 0)) (by (with_reducible repeat (first | apply kB | apply kC | apply kE)); exact BK430.out)) : gb431 ≠ gb430)); replace BK430 := am (blk_below (g := gb430) (o := .cells #[.slice A0_0 l0_0.length c0_0, .slice A0_1 l0_1.length c0_1, .int .i64 a0_2] 27 (0, 0)) (by (with_reducible repeat (first | apply kB | apply kC | apply kE)); exact BK430.out) hb); clear hb hbox hg; have hnb15 := NB430_431.out; have hnc15 := NB431_430.out; have hcz16_0 : w14.cell? ⟨gb430, 0, none⟩ = some (.slice A0_0 l0_0.length c0_0) := (blk_cell BK430.out 0).trans rfl; have hcz16_1 : w14.cell? ⟨gb430, 1, none⟩ = some (.slice A0_1 l0_1.length c0_1) := (blk_cell BK430.out 1).trans rfl; have hcz16_2 : w14.cell? ⟨gb430, 2, none⟩ = some (.int .i64 a0_2) := (blk_cell BK430.out 2).trans rfl; have hfz16_0 := blk_frozen BK430.out 0; have hfz16_1 := blk_frozen BK430.out 1; have hfz16_2 := blk_frozen BK430.out 2; have hcz17_0 : w14.cell? ⟨gb431, 0, none⟩ = some (.slice A1_0 l1_0.length c1_0) := (blk_cell BK431.out 0).trans rfl; have hcz17_1 : w14.cell? ⟨gb431, 1, none⟩ = some (.slice A1_1 l1_1.length c1_1) := (blk_cell BK431.out 1).trans rfl; have hcz17_2 : w14.cell? ⟨gb431, 2, none⟩ = some (.int .i64 a1_2) := (blk_cell BK431.out 2).trans rfl; have hfz17_0 := blk_frozen BK431.out 0; have hfz17_1 := blk_frozen BK431.out 1; have hfz17_2 := blk_frozen BK431.out 2) | ((with_reducible refine gate_callee (f := 24) rfl ?_); refine goesL_ (some 9) rfl rfl Try.func24 (by kernel_rfl) rfl #[.slice A0_0 l0_0.length c0_0, .slice A1_0 l1_0.length c1_0] rfl (by (try simp only [List.map_toArray, List.map_cons, List.map_nil]); first | done | rfl) ?_; (with_reducible refine (laws_eqIntS.calls k _ _ l0_0 _ _ l1_0 true _ ?side1 ?side2 ?side3 ?side4 A3.out).mono ?_); (case side1 => repeat (first | exact (Kd.C_below HR0_0.out HB.out) | (with_reducible first | apply cA | apply cN | apply cD))); (case side2 => exact HC0_0.out); (case side3 => repeat (first | exact (Kd.C_below HR1_0.out HB.out) | (with_reducible first | apply cA | apply cN | apply cD))); (case side4 => exact HC1_0.out); rintro e w' ⟨rfl, ⟨nd, rfl⟩⟩; refine ⟨_, rfl, ?_⟩) | ((with_reducible refine gate_callee (f := 24) rfl ?_); refine goesL_ (some 15) rfl rfl Try.func24 (by kernel_rfl) rfl #[.slice A0_1 l0_1.length c0_1, .slice A1_1 l1_1.length c1_1] rfl (by (try simp only [List.map_toArray, List.map_cons, List.map_nil]); first | done | rfl) ?_; (with_reducible refine (laws_eqIntS.calls k _ _ l0_1 _ _ l1_1 true _ ?side1 ?side2 ?side3 ?side4 A5.out).mono ?_); (case side1 => repeat (first | exact (Kd.C_below HR0_1.out (by repeat (with_reducible first | exact HB.out | apply bA | apply bN | apply bD | refine bS ?_ GE430.out | refine bS ?_ GE431.out))) | (with_reducible first | apply cA | apply cN | apply cD))); (case side2 => exact HC0_1.out); (case side3 => repeat (first | exact (Kd.C_below HR1_1.out (by repeat (with_reducible first | exact HB.out | apply bA | apply bN | apply bD | refine bS ?_ GE430.out | refine bS ?_ GE431.out))) | (with_reducible first | apply cA | apply cN | apply cD))); (case side4 => exact HC1_1.out); rintro e w' ⟨rfl, ⟨nd, rfl⟩⟩; refine ⟨_, rfl, ?_⟩))
    go_ret
    exact ⟨by first | rfl | (simp [*, errW_none, errW_some] <;> rfl), by repeat (with_reducible first | exact HB.out | apply bA | apply bN | apply bD | refine bS ?_ GE430.out | refine bS ?_ GE431.out)⟩
  ·replace c6 := Bool.eq_false_iff.mpr c6
   subst c6
   have H1 : (some false) = some r := by rw [if_neg (show ¬ (false = true) by decide)] at H; exact H
   clear H
   have H := H1
   clear H1
   obtain rfl := Option.some.inj H
   go_enter Try.func8, Try.ntmps8
   go_wp2_with (first | ((with_reducible refine gate_dst (N := 2) rfl ?_); refine box_event ?hg (N := 2) ?hd (cs := #[.slice A0_0 l0_0.length c0_0, .slice A0_1 l0_1.length c0_1, .int .i64 a0_2]) (t := 27) ?hr ?_; (case hd => rfl); (case hg => rfl); (case hr => first | (go_simp; done) | (go_simp; rfl)); intro gb430 hg w18 hbox hb; have BK430 := am (hbox); have GW430 := am ((by rw [hg]; exact (below_size (by repeat (with_reducible first | exact HB.out | apply bA | apply bN | apply bD))) : w.heap.size ≤ gb430)); have GE430 := am ((by rw [hg]; exact (below_size (by repeat (with_reducible first | exact HB.out | apply bA | apply bN | apply bD))) : w.heap.size ≤ gb430)); replace HB := am (below_step (by repeat (with_reducible first | exact HB.out | apply bA | apply bN | apply bD)) hb); clear hb hbox hg) | ((with_reducible refine gate_dst (N := 3) rfl ?_); refine box_event ?hg (N := 3) ?hd (cs := #[.slice A1_0 l1_0.length c1_0, .slice A1_1 l1_1.length c1_1, .int .i64 a1_2]) (t := 27) ?hr ?_; (case hd => rfl); (case hg => rfl); (case hr => first | (go_simp; done) | (go_simp; rfl)); intro gb431 hg w19 hbox hb; have BK431 := am (hbox); have GW431 := am ((by rw [hg]; exact (below_size (by repeat (with_reducible first | exact HB.out | apply bA | apply bN | apply bD | refine bS ?_ GE430.out))) : w.heap.size ≤ gb431)); have GE431 := am ((by rw [hg]; exact (below_size (by repeat (with_reducible first | exact HB.out | apply bA | apply bN | apply bD | refine bS ?_ GE430.out))) : w.heap.size ≤ gb431)); replace HB := am (below_step (by repeat (with_reducible first | exact HB.out | apply bA | apply bN | apply bD | refine bS ?_ GE430.out)) hb); have NB430_431 := am ((by rw [hg]; exact Nat.ne_of_lt (blk_lt (g := gb430) (o := .cells #[.slice A0_0 l0_0.length c0_0, .slice A0_1 l0_1.length c0_1, .int .i64 a0_2] 27 (0, 0)) (by (with_reducible repeat (first | apply kB | apply kC | apply kE)); exact BK430.out)) : gb430 ≠ gb431)); have NB431_430 := am ((by rw [hg]; exact Nat.ne_of_gt (blk_lt (g := gb430) (o := .cells #[.slice A0_0 l0_0.length c0_0, .slice A0_1 l0_1.length c0_1, .int .i64 a0_2] 27 (0, 0)) (by (with_reducible repeat (first | apply kB | apply kC | apply kE)); exact BK430.out)) : gb431 ≠ gb430)); replace BK430 := am (blk_below (g := gb430) (o := .cells #[.slice A0_0 l0_0.length c0_0, .slice A0_1 l0_1.length c0_1, .int .i64 a0_2] 27 (0, 0)) (by (with_reducible repeat (first | apply kB | apply kC | apply kE)); exact BK430.out) hb); clear hb hbox hg; have hnb20 := NB430_431.out; have hnc20 := NB431_430.out; have hcz21_0 : w19.cell? ⟨gb430, 0, none⟩ = some (.slice A0_0 l0_0.length c0_0) := (blk_cell BK430.out 0).trans rfl; have hcz21_1 : w19.cell? ⟨gb430, 1, none⟩ = some (.slice A0_1 l0_1.length c0_1) := (blk_cell BK430.out 1).trans rfl; have hcz21_2 : w19.cell? ⟨gb430, 2, none⟩ = some (.int .i64 a0_2) := (blk_cell BK430.out 2).trans rfl; have hfz21_0 := blk_frozen BK430.out 0; have hfz21_1 := blk_frozen BK430.out 1; have hfz21_2 := blk_frozen BK430.out 2; have hcz22_0 : w19.cell? ⟨gb431, 0, none⟩ = some (.slice A1_0 l1_0.length c1_0) := (blk_cell BK431.out 0).trans rfl; have hcz22_1 : w19.cell? ⟨gb431, 1, none⟩ = some (.slice A1_1 l1_1.length c1_1) := (blk_cell BK431.out 1).trans rfl; have hcz22_2 : w19.cell? ⟨gb431, 2, none⟩ = some (.int .i64 a1_2) := (blk_cell BK431.out 2).trans rfl; have hfz22_0 := blk_frozen BK431.out 0; have hfz22_1 := blk_frozen BK431.out 1; have hfz22_2 := blk_frozen BK431.out 2) | ((with_reducible refine gate_callee (f := 24) rfl ?_); refine goesL_ (some 9) rfl rfl Try.func24 (by kernel_rfl) rfl #[.slice A0_0 l0_0.length c0_0, .slice A1_0 l1_0.length c1_0] rfl (by (try simp only [List.map_toArray, List.map_cons, List.map_nil]); first | done | rfl) ?_; (with_reducible refine (laws_eqIntS.calls k _ _ l0_0 _ _ l1_0 true _ ?side1 ?side2 ?side3 ?side4 A3.out).mono ?_); (case side1 => repeat (first | exact (Kd.C_below HR0_0.out HB.out) | (with_reducible first | apply cA | apply cN | apply cD))); (case side2 => exact HC0_0.out); (case side3 => repeat (first | exact (Kd.C_below HR1_0.out HB.out) | (with_reducible first | apply cA | apply cN | apply cD))); (case side4 => exact HC1_0.out); rintro e w' ⟨rfl, ⟨nd, rfl⟩⟩; refine ⟨_, rfl, ?_⟩) | ((with_reducible refine gate_callee (f := 24) rfl ?_); refine goesL_ (some 15) rfl rfl Try.func24 (by kernel_rfl) rfl #[.slice A0_1 l0_1.length c0_1, .slice A1_1 l1_1.length c1_1] rfl (by (try simp only [List.map_toArray, List.map_cons, List.map_nil]); first | done | rfl) ?_; (with_reducible refine (laws_eqIntS.calls k _ _ l0_1 _ _ l1_1 false _ ?side1 ?side2 ?side3 ?side4 A5.out).mono ?_); (case side1 => repeat (first | exact (Kd.C_below HR0_1.out (by repeat (with_reducible first | exact HB.out | apply bA | apply bN | apply bD | refine bS ?_ GE430.out | refine bS ?_ GE431.out))) | (with_reducible first | apply cA | apply cN | apply cD))); (case side2 => exact HC0_1.out); (case side3 => repeat (first | exact (Kd.C_below HR1_1.out (by repeat (with_reducible first | exact HB.out | apply bA | apply bN | apply bD | refine bS ?_ GE430.out | refine bS ?_ GE431.out))) | (with_reducible first | apply cA | apply cN | apply cD))); (case side4 => exact HC1_1.out); rintro e w' ⟨rfl, ⟨nd, rfl⟩⟩; refine ⟨_, rfl, ?_⟩))
   go_ret
   exact ⟨by first | rfl | (simp [*, errW_none, errW_some] <;> rfl), by repeat (with_reducible first | exact HB.out | apply bA | apply bN | apply bD | refine bS ?_ GE430.out | refine bS ?_ GE431.out)⟩
 ·replace c4 := Bool.eq_false_iff.mpr c4
  subst c4
  have H1 : (some false) = some r := by rw [if_neg (show ¬ (false = true) by decide)] at H; exact H
  clear H
  have H := H1
  clear H1
  obtain rfl := Option.some.inj H
  go_enter Try.func8, Try.ntmps8
  go_wp2_with (first | ((with_reducible refine gate_dst (N := 2) rfl ?_); refine box_event ?hg (N := 2) ?hd (cs := #[.slice A0_0 l0_0.length c0_0, .slice A0_1 l0_1.length c0_1, .int .i64 a0_2]) (t := 27) ?hr ?_; (case hd => rfl); (case hg => rfl); (case hr => first | (go_simp; done) | (go_simp; rfl)); intro gb430 hg w23 hbox hb; have BK430 := am (hbox); have GW430 := am ((by rw [hg]; exact (below_size (by repeat (with_reducible first | exact HB.out | apply bA | apply bN | apply bD))) : w.heap.size ≤ gb430)); have GE430 := am ((by rw [hg]; exact (below_size (by repeat (with_reducible first | exact HB.out | apply bA | apply bN | apply bD))) : w.heap.size ≤ gb430)); replace HB := am (below_step (by repeat (with_reducible first | exact HB.out | apply bA | apply bN | apply bD)) hb); clear hb hbox hg) | ((with_reducible refine gate_dst (N := 3) rfl ?_); refine box_event ?hg (N := 3) ?hd (cs := #[.slice A1_0 l1_0.length c1_0, .slice A1_1 l1_1.length c1_1, .int .i64 a1_2]) (t := 27) ?hr ?_; (case hd => rfl); (case hg => rfl); (case hr => first | (go_simp; done) | (go_simp; rfl)); intro gb431 hg w24 hbox hb; have BK431 := am (hbox); have GW431 := am ((by rw [hg]; exact (below_size (by repeat (with_reducible first | exact HB.out | apply bA | apply bN | apply bD | refine bS ?_ GE430.out))) : w.heap.size ≤ gb431)); have GE431 := am ((by rw [hg]; exact (below_size (by repeat (with_reducible first | exact HB.out | apply bA | apply bN | apply bD | refine bS ?_ GE430.out))) : w.heap.size ≤ gb431)); replace HB := am (below_step (by repeat (with_reducible first | exact HB.out | apply bA | apply bN | apply bD | refine bS ?_ GE430.out)) hb); have NB430_431 := am ((by rw [hg]; exact Nat.ne_of_lt (blk_lt (g := gb430) (o := .cells #[.slice A0_0 l0_0.length c0_0, .slice A0_1 l0_1.length c0_1, .int .i64 a0_2] 27 (0, 0)) (by (with_reducible repeat (first | apply kB | apply kC | apply kE)); exact BK430.out)) : gb430 ≠ gb431)); have NB431_430 := am ((by rw [hg]; exact Nat.ne_of_gt (blk_lt (g := gb430) (o := .cells #[.slice A0_0 l0_0.length c0_0, .slice A0_1 l0_1.length c0_1, .int .i64 a0_2] 27 (0, 0)) (by (with_reducible repeat (first | apply kB | apply kC | apply kE)); exact BK430.out)) : gb431 ≠ gb430)); replace BK430 := am (blk_below (g := gb430) (o := .cells #[.slice A0_0 l0_0.length c0_0, .slice A0_1 l0_1.length c0_1, .int .i64 a0_2] 27 (0, 0)) (by (with_reducible repeat (first | apply kB | apply kC | apply kE)); exact BK430.out) hb); clear hb hbox hg; have hnb25 := NB430_431.out; have hnc25 := NB431_430.out; have hcz26_0 : w24.cell? ⟨gb430, 0, none⟩ = some (.slice A0_0 l0_0.length c0_0) := (blk_cell BK430.out 0).trans rfl; have hcz26_1 : w24.cell? ⟨gb430, 1, none⟩ = some (.slice A0_1 l0_1.length c0_1) := (blk_cell BK430.out 1).trans rfl; have hcz26_2 : w24.cell? ⟨gb430, 2, none⟩ = some (.int .i64 a0_2) := (blk_cell BK430.out 2).trans rfl; have hfz26_0 := blk_frozen BK430.out 0; have hfz26_1 := blk_frozen BK430.out 1; have hfz26_2 := blk_frozen BK430.out 2; have hcz27_0 : w24.cell? ⟨gb431, 0, none⟩ = some (.slice A1_0 l1_0.length c1_0) := (blk_cell BK431.out 0).trans rfl; have hcz27_1 : w24.cell? ⟨gb431, 1, none⟩ = some (.slice A1_1 l1_1.length c1_1) := (blk_cell BK431.out 1).trans rfl; have hcz27_2 : w24.cell? ⟨gb431, 2, none⟩ = some (.int .i64 a1_2) := (blk_cell BK431.out 2).trans rfl; have hfz27_0 := blk_frozen BK431.out 0; have hfz27_1 := blk_frozen BK431.out 1; have hfz27_2 := blk_frozen BK431.out 2) | ((with_reducible refine gate_callee (f := 24) rfl ?_); refine goesL_ (some 9) rfl rfl Try.func24 (by kernel_rfl) rfl #[.slice A0_0 l0_0.length c0_0, .slice A1_0 l1_0.length c1_0] rfl (by (try simp only [List.map_toArray, List.map_cons, List.map_nil]); first | done | rfl) ?_; (with_reducible refine (laws_eqIntS.calls k _ _ l0_0 _ _ l1_0 false _ ?side1 ?side2 ?side3 ?side4 A3.out).mono ?_); (case side1 => repeat (first | exact (Kd.C_below HR0_0.out HB.out) | (with_reducible first | apply cA | apply cN | apply cD))); (case side2 => exact HC0_0.out); (case side3 => repeat (first | exact (Kd.C_below HR1_0.out HB.out) | (with_reducible first | apply cA | apply cN | apply cD))); (case side4 => exact HC1_0.out); rintro e w' ⟨rfl, ⟨nd, rfl⟩⟩; refine ⟨_, rfl, ?_⟩))
  go_ret
  exact ⟨by first | rfl | (simp [*, errW_none, errW_some] <;> rfl), by repeat (with_reducible first | exact HB.out | apply bA | apply bN | apply bD | refine bS ?_ GE430.out | refine bS ?_ GE431.out)⟩

/-! ### laws_eqMeander: function 9 -/
def laws_eqMeander.f (k : Nat) (l0_0 : List Int) (l0_1 : List Int) (l1_0 : List Int) (l1_1 : List Int) : Option (Bool) := (laws_eqIntS.f k l0_0 l1_0).bind fun t436 => (if t436 = true then ((laws_eqIntS.f k l0_1 l1_1).bind fun t437 => (if t437 = true then (some true) else (some false))) else (some false))
theorem laws_eqMeander.mono : ∀ a0 a1 a2 a3 k, LeO (laws_eqMeander.f k a0 a1 a2 a3) (laws_eqMeander.f (k + 1) a0 a1 a2 a3) := by
 intro a0 a1 a2 a3 k
 unfold laws_eqMeander.f
 repeat' first
  | (with_reducible first | exact laws_eqIntS.mono _ _ _ | exact LeO.refl _ | exact LeO.none _ | refine LeO.ite ?_ ?_ | refine LeO.bind ?_ (fun _ => ?_))
  | exact LeO.none _
  | refine LeO.ite ?_ ?_
  | refine LeO.bind ?_ (fun _ => ?_)
theorem laws_eqMeander.calls (k : Nat) (A0_0 : Option Addr) (c0_0 : Nat) (l0_0 : List Int) (A0_1 : Option Addr) (c0_1 : Nat) (l0_1 : List Int) (A1_0 : Option Addr) (c1_0 : Nat) (l1_0 : List Int) (A1_1 : Option Addr) (c1_1 : Nat) (l1_1 : List Int) (r : Bool) (w : World) (hr0_0 : Kd.C (Kd.int .i64) w A0_0 l0_0.length l0_0) (hc0_0 : l0_0.length ≤ c0_0) (hr0_1 : Kd.C (Kd.int .i64) w A0_1 l0_1.length l0_1) (hc0_1 : l0_1.length ≤ c0_1) (hr1_0 : Kd.C (Kd.int .i64) w A1_0 l1_0.length l1_0) (hc1_0 : l1_0.length ≤ c1_0) (hr1_1 : Kd.C (Kd.int .i64) w A1_1 l1_1.length l1_1) (hc1_1 : l1_1.length ≤ c1_1) (h : laws_eqMeander.f k l0_0 l0_1 l1_0 l1_1 = some r) :
  Calls Try.prog 9 #[.agg #[.slice A0_0 l0_0.length c0_0, .slice A0_1 l0_1.length c0_1], .agg #[.slice A1_0 l1_0.length c1_0, .slice A1_1 l1_1.length c1_1]] w fun e w' => e = .returned (.bool r) ∧ Below w.heap.size w w' := by
 have hu30 := Try.underlying30
 have HR0_0 := am hr0_0
 have HC0_0 := am hc0_0
 clear hr0_0 hc0_0
 have HR0_1 := am hr0_1
 have HC0_1 := am hc0_1
 clear hr0_1 hc0_1
 have HR1_0 := am hr1_0
 have HC1_0 := am hc1_0
 clear hr1_0 hc1_0
 have HR1_1 := am hr1_1
 have HC1_1 := am hc1_1
 clear hr1_1 hc1_1
 have HB := am (Below.refl w.heap.size w)
 have H : ((laws_eqIntS.f k l0_0 l1_0).bind fun t436 => (if t436 = true then ((laws_eqIntS.f k l0_1 l1_1).bind fun t437 => (if t437 = true then (some true) else (some false))) else (some false))) = some r := h
 clear h
 replace H := Option.bind_eq_some_iff.mp H
 obtain ⟨t436, A30, H⟩ := H
 replace H : (if t436 = true then ((laws_eqIntS.f k l0_1 l1_1).bind fun t437 => (if t437 = true then (some true) else (some false))) else (some false)) = some r := H
 have A3 := am A30
 clear A30
 by_cases c4 : t436 = true
 ·subst c4
  have H1 : ((laws_eqIntS.f k l0_1 l1_1).bind fun t437 => (if t437 = true then (some true) else (some false))) = some r := by rw [if_pos rfl] at H; exact H
  clear H
  have H := H1
  clear H1
  replace H := Option.bind_eq_some_iff.mp H
  obtain ⟨t437, A50, H⟩ := H
  replace H : (if t437 = true then (some true) else (some false)) = some r := H
  have A5 := am A50
  clear A50
  by_cases c6 : t437 = true
  ·subst c6
   have H1 : (some true) = some r := by rw [if_pos rfl] at H; exact H
   clear H
   have H := H1
   clear H1
   obtain rfl := Option.some.inj H
   go_enter Try.func9, Try.ntmps9
   go_wp2_with (first | ((with_reducible refine gate_dst (N := 2) rfl ?_); refine box_event ?hg (N := 2) ?hd (cs := #[.slice A0_0 l0_0.length c0_0, .slice A0_1 l0_1.length c0_1]) (t := 30) ?hr ?_; (case hd => rfl); (case hg => rfl); (case hr => first | (go_simp; done) | (go_simp; rfl)); intro gb434 hg w7 hbox hb; have BK434 := am (hbox); have GW434 := am ((by rw [hg]; exact (below_size (by repeat (with_reducible first | exact HB.out | apply bA | apply bN | apply bD))) : w.heap.size ≤ gb434)); have GE434 := am ((by rw [hg]; exact (below_size (by repeat (with_reducible first | exact HB.out | apply bA | apply bN | apply bD))) : w.heap.size ≤ gb434)); replace HB := am (below_step (by repeat (with_reducible first | exact HB.out | apply bA | apply bN | apply bD)) hb); clear hb hbox hg) | ((with_reducible refine gate_dst (N := 3) rfl ?_); refine box_event ?hg (N := 3) ?hd (cs := #[.slice A1_0 l1_0.length c1_0, .slice A1_1 l1_1.length c1_1]) (t := 30) ?hr ?_; (case hd => rfl); (case hg => rfl); (case hr => first | (go_simp; done) | (go_simp; rfl)); intro gb435 hg w8 hbox hb; have BK435 := am (hbox); have GW435 := am ((by rw [hg]; exact (below_size (by repeat (with_reducible first | exact HB.out | apply bA | apply bN | apply bD | refine bS ?_ GE434.out))) : w.heap.size ≤ gb435)); have GE435 := am ((by rw [hg]; exact (below_size (by repeat (with_reducible first | exact HB.out | apply bA | apply bN | apply bD | refine bS ?_ GE434.out))) : w.heap.size ≤ gb435)); replace HB := am (below_step (by repeat (with_reducible first | exact HB.out | apply bA | apply bN | apply bD | refine bS ?_ GE434.out)) hb); have NB434_435 := am ((by rw [hg]; exact Nat.ne_of_lt (blk_lt (g := gb434) (o := .cells #[.slice A0_0 l0_0.length c0_0, .slice A0_1 l0_1.length c0_1] 30 (0, 0)) (by (with_reducible repeat (first | apply kB | apply kC | apply kE)); exact BK434.out)) : gb434 ≠ gb435)); have NB435_434 := am ((by rw [hg]; exact Nat.ne_of_gt (blk_lt (g := gb434) (o := .cells #[.slice A0_0 l0_0.length c0_0, .slice A0_1 l0_1.length c0_1] 30 (0, 0)) (by (with_reducible repeat (first | apply kB | apply kC | apply kE)); exact BK434.out)) : gb435 ≠ gb434)); replace BK434 := am (blk_below (g := gb434) (o := .cells #[.slice A0_0 l0_0.length c0_0, .slice A0_1 l0_1.length c0_1] 30 (0, 0)) (by (with_reducible repeat (first | apply kB | apply kC | apply kE)); exact BK434.out) hb); clear hb hbox hg; have hnb9 := NB434_435.out; have hnc9 := NB435_434.out; have hcz10_0 : w8.cell? ⟨gb434, 0, none⟩ = some (.slice A0_0 l0_0.length c0_0) := (blk_cell BK434.out 0).trans rfl; have hcz10_1 : w8.cell? ⟨gb434, 1, none⟩ = some (.slice A0_1 l0_1.length c0_1) := (blk_cell BK434.out 1).trans rfl; have hfz10_0 := blk_frozen BK434.out 0; have hfz10_1 := blk_frozen BK434.out 1; have hcz11_0 : w8.cell? ⟨gb435, 0, none⟩ = some (.slice A1_0 l1_0.length c1_0) := (blk_cell BK435.out 0).trans rfl; have hcz11_1 : w8.cell? ⟨gb435, 1, none⟩ = some (.slice A1_1 l1_1.length c1_1) := (blk_cell BK435.out 1).trans rfl; have hfz11_0 := blk_frozen BK435.out 0; have hfz11_1 := blk_frozen BK435.out 1) | ((with_reducible refine gate_callee (f := 24) rfl ?_); refine goesL_ (some 9) rfl rfl Try.func24 (by kernel_rfl) rfl #[.slice A0_0 l0_0.length c0_0, .slice A1_0 l1_0.length c1_0] rfl (by (try simp only [List.map_toArray, List.map_cons, List.map_nil]); first | done | rfl) ?_; (with_reducible refine (laws_eqIntS.calls k _ _ l0_0 _ _ l1_0 true _ ?side1 ?side2 ?side3 ?side4 A3.out).mono ?_); (case side1 => repeat (first | exact (Kd.C_below HR0_0.out HB.out) | (with_reducible first | apply cA | apply cN | apply cD))); (case side2 => exact HC0_0.out); (case side3 => repeat (first | exact (Kd.C_below HR1_0.out HB.out) | (with_reducible first | apply cA | apply cN | apply cD))); (case side4 => exact HC1_0.out); rintro e w' ⟨rfl, ⟨nd, rfl⟩⟩; refine ⟨_, rfl, ?_⟩) | ((with_reducible refine gate_callee (f := 24) rfl ?_); refine goesL_ (some 15) rfl rfl Try.func24 (by kernel_rfl) rfl #[.slice A0_1 l0_1.length c0_1, .slice A1_1 l1_1.length c1_1] rfl (by (try simp only [List.map_toArray, List.map_cons, List.map_nil]); first | done | rfl) ?_; (with_reducible refine (laws_eqIntS.calls k _ _ l0_1 _ _ l1_1 true _ ?side1 ?side2 ?side3 ?side4 A5.out).mono ?_); (case side1 => repeat (first | exact (Kd.C_below HR0_1.out (by repeat (with_reducible first | exact HB.out | apply bA | apply bN | apply bD | refine bS ?_ GE434.out | refine bS ?_ GE435.out))) | (with_reducible first | apply cA | apply cN | apply cD))); (case side2 => exact HC0_1.out); (case side3 => repeat (first | exact (Kd.C_below HR1_1.out (by repeat (with_reducible first | exact HB.out | apply bA | apply bN | apply bD | refine bS ?_ GE434.out | refine bS ?_ GE435.out))) | (with_reducible first | apply cA | apply cN | apply cD))); (case side4 => exact HC1_1.out); rintro e w' ⟨rfl, ⟨nd, rfl⟩⟩; refine ⟨_, rfl, ?_⟩))
   go_ret
   exact ⟨by first | rfl | (simp [*, errW_none, errW_some] <;> rfl), by repeat (with_reducible first | exact HB.out | apply bA | apply bN | apply bD | refine bS ?_ GE434.out | refine bS ?_ GE435.out)⟩
  ·replace c6 := Bool.eq_false_iff.mpr c6
   subst c6
   have H1 : (some false) = some r := by rw [if_neg (show ¬ (false = true) by decide)] at H; exact H
   clear H
   have H := H1
   clear H1
   obtain rfl := Option.some.inj H
   go_enter Try.func9, Try.ntmps9
   go_wp2_with (first | ((with_reducible refine gate_dst (N := 2) rfl ?_); refine box_event ?hg (N := 2) ?hd (cs := #[.slice A0_0 l0_0.length c0_0, .slice A0_1 l0_1.length c0_1]) (t := 30) ?hr ?_; (case hd => rfl); (case hg => rfl); (case hr => first | (go_simp; done) | (go_simp; rfl)); intro gb434 hg w12 hbox hb; have BK434 := am (hbox); have GW434 := am ((by rw [hg]; exact (below_size (by repeat (with_reducible first | exact HB.out | apply bA | apply bN | apply bD))) : w.heap.size ≤ gb434)); have GE434 := am ((by rw [hg]; exact (below_size (by repeat (with_reducible first | exact HB.out | apply bA | apply bN | apply bD))) : w.heap.size ≤ gb434)); replace HB := am (below_step (by repeat (with_reducible first | exact HB.out | apply bA | apply bN | apply bD)) hb); clear hb hbox hg) | ((with_reducible refine gate_dst (N := 3) rfl ?_); refine box_event ?hg (N := 3) ?hd (cs := #[.slice A1_0 l1_0.length c1_0, .slice A1_1 l1_1.length c1_1]) (t := 30) ?hr ?_; (case hd => rfl); (case hg => rfl); (case hr => first | (go_simp; done) | (go_simp; rfl)); intro gb435 hg w13 hbox hb; have BK435 := am (hbox); have GW435 := am ((by rw [hg]; exact (below_size (by repeat (with_reducible first | exact HB.out | apply bA | apply bN | apply bD | refine bS ?_ GE434.out))) : w.heap.size ≤ gb435)); have GE435 := am ((by rw [hg]; exact (below_size (by repeat (with_reducible first | exact HB.out | apply bA | apply bN | apply bD | refine bS ?_ GE434.out))) : w.heap.size ≤ gb435)); replace HB := am (below_step (by repeat (with_reducible first | exact HB.out | apply bA | apply bN | apply bD | refine bS ?_ GE434.out)) hb); have NB434_435 := am ((by rw [hg]; exact Nat.ne_of_lt (blk_lt (g := gb434) (o := .cells #[.slice A0_0 l0_0.length c0_0, .slice A0_1 l0_1.length c0_1] 30 (0, 0)) (by (with_reducible repeat (first | apply kB | apply kC | apply kE)); exact BK434.out)) : gb434 ≠ gb435)); have NB435_434 := am ((by rw [hg]; exact Nat.ne_of_gt (blk_lt (g := gb434) (o := .cells #[.slice A0_0 l0_0.length c0_0, .slice A0_1 l0_1.length c0_1] 30 (0, 0)) (by (with_reducible repeat (first | apply kB | apply kC | apply kE)); exact BK434.out)) : gb435 ≠ gb434)); replace BK434 := am (blk_below (g := gb434) (o := .cells #[.slice A0_0 l0_0.length c0_0, .slice A0_1 l0_1.length c0_1] 30 (0, 0)) (by (with_reducible repeat (first | apply kB | apply kC | apply kE)); exact BK434.out) hb); clear hb hbox hg; have hnb14 := NB434_435.out; have hnc14 := NB435_434.out; have hcz15_0 : w13.cell? ⟨gb434, 0, none⟩ = some (.slice A0_0 l0_0.length c0_0) := (blk_cell BK434.out 0).trans rfl; have hcz15_1 : w13.cell? ⟨gb434, 1, none⟩ = some (.slice A0_1 l0_1.length c0_1) := (blk_cell BK434.out 1).trans rfl; have hfz15_0 := blk_frozen BK434.out 0; have hfz15_1 := blk_frozen BK434.out 1; have hcz16_0 : w13.cell? ⟨gb435, 0, none⟩ = some (.slice A1_0 l1_0.length c1_0) := (blk_cell BK435.out 0).trans rfl; have hcz16_1 : w13.cell? ⟨gb435, 1, none⟩ = some (.slice A1_1 l1_1.length c1_1) := (blk_cell BK435.out 1).trans rfl; have hfz16_0 := blk_frozen BK435.out 0; have hfz16_1 := blk_frozen BK435.out 1) | ((with_reducible refine gate_callee (f := 24) rfl ?_); refine goesL_ (some 9) rfl rfl Try.func24 (by kernel_rfl) rfl #[.slice A0_0 l0_0.length c0_0, .slice A1_0 l1_0.length c1_0] rfl (by (try simp only [List.map_toArray, List.map_cons, List.map_nil]); first | done | rfl) ?_; (with_reducible refine (laws_eqIntS.calls k _ _ l0_0 _ _ l1_0 true _ ?side1 ?side2 ?side3 ?side4 A3.out).mono ?_); (case side1 => repeat (first | exact (Kd.C_below HR0_0.out HB.out) | (with_reducible first | apply cA | apply cN | apply cD))); (case side2 => exact HC0_0.out); (case side3 => repeat (first | exact (Kd.C_below HR1_0.out HB.out) | (with_reducible first | apply cA | apply cN | apply cD))); (case side4 => exact HC1_0.out); rintro e w' ⟨rfl, ⟨nd, rfl⟩⟩; refine ⟨_, rfl, ?_⟩) | ((with_reducible refine gate_callee (f := 24) rfl ?_); refine goesL_ (some 15) rfl rfl Try.func24 (by kernel_rfl) rfl #[.slice A0_1 l0_1.length c0_1, .slice A1_1 l1_1.length c1_1] rfl (by (try simp only [List.map_toArray, List.map_cons, List.map_nil]); first | done | rfl) ?_; (with_reducible refine (laws_eqIntS.calls k _ _ l0_1 _ _ l1_1 false _ ?side1 ?side2 ?side3 ?side4 A5.out).mono ?_); (case side1 => repeat (first | exact (Kd.C_below HR0_1.out (by repeat (with_reducible first | exact HB.out | apply bA | apply bN | apply bD | refine bS ?_ GE434.out | refine bS ?_ GE435.out))) | (with_reducible first | apply cA | apply cN | apply cD))); (case side2 => exact HC0_1.out); (case side3 => repeat (first | exact (Kd.C_below HR1_1.out (by repeat (with_reducible first | exact HB.out | apply bA | apply bN | apply bD | refine bS ?_ GE434.out | refine bS ?_ GE435.out))) | (with_reducible first | apply cA | apply cN | apply cD))); (case side4 => exact HC1_1.out); rintro e w' ⟨rfl, ⟨nd, rfl⟩⟩; refine ⟨_, rfl, ?_⟩))
   go_ret
   exact ⟨by first | rfl | (simp [*, errW_none, errW_some] <;> rfl), by repeat (with_reducible first | exact HB.out | apply bA | apply bN | apply bD | refine bS ?_ GE434.out | refine bS ?_ GE435.out)⟩
 ·replace c4 := Bool.eq_false_iff.mpr c4
  subst c4
  have H1 : (some false) = some r := by rw [if_neg (show ¬ (false = true) by decide)] at H; exact H
  clear H
  have H := H1
  clear H1
  obtain rfl := Option.some.inj H
  go_enter Try.func9, Try.ntmps9
  go_wp2_with (first | ((with_reducible refine gate_dst (N := 2) rfl ?_); refine box_event ?hg (N := 2) ?hd (cs := #[.slice A0_0 l0_0.length c0_0, .slice A0_1 l0_1.length c0_1]) (t := 30) ?hr ?_; (case hd => rfl); (case hg => rfl); (case hr => first | (go_simp; done) | (go_simp; rfl)); intro gb434 hg w17 hbox hb; have BK434 := am (hbox); have GW434 := am ((by rw [hg]; exact (below_size (by repeat (with_reducible first | exact HB.out | apply bA | apply bN | apply bD))) : w.heap.size ≤ gb434)); have GE434 := am ((by rw [hg]; exact (below_size (by repeat (with_reducible first | exact HB.out | apply bA | apply bN | apply bD))) : w.heap.size ≤ gb434)); replace HB := am (below_step (by repeat (with_reducible first | exact HB.out | apply bA | apply bN | apply bD)) hb); clear hb hbox hg) | ((with_reducible refine gate_dst (N := 3) rfl ?_); refine box_event ?hg (N := 3) ?hd (cs := #[.slice A1_0 l1_0.length c1_0, .slice A1_1 l1_1.length c1_1]) (t := 30) ?hr ?_; (case hd => rfl); (case hg => rfl); (case hr => first | (go_simp; done) | (go_simp; rfl)); intro gb435 hg w18 hbox hb; have BK435 := am (hbox); have GW435 := am ((by rw [hg]; exact (below_size (by repeat (with_reducible first | exact HB.out | apply bA | apply bN | apply bD | refine bS ?_ GE434.out))) : w.heap.size ≤ gb435)); have GE435 := am ((by rw [hg]; exact (below_size (by repeat (with_reducible first | exact HB.out | apply bA | apply bN | apply bD | refine bS ?_ GE434.out))) : w.heap.size ≤ gb435)); replace HB := am (below_step (by repeat (with_reducible first | exact HB.out | apply bA | apply bN | apply bD | refine bS ?_ GE434.out)) hb); have NB434_435 := am ((by rw [hg]; exact Nat.ne_of_lt (blk_lt (g := gb434) (o := .cells #[.slice A0_0 l0_0.length c0_0, .slice A0_1 l0_1.length c0_1] 30 (0, 0)) (by (with_reducible repeat (first | apply kB | apply kC | apply kE)); exact BK434.out)) : gb434 ≠ gb435)); have NB435_434 := am ((by rw [hg]; exact Nat.ne_of_gt (blk_lt (g := gb434) (o := .cells #[.slice A0_0 l0_0.length c0_0, .slice A0_1 l0_1.length c0_1] 30 (0, 0)) (by (with_reducible repeat (first | apply kB | apply kC | apply kE)); exact BK434.out)) : gb435 ≠ gb434)); replace BK434 := am (blk_below (g := gb434) (o := .cells #[.slice A0_0 l0_0.length c0_0, .slice A0_1 l0_1.length c0_1] 30 (0, 0)) (by (with_reducible repeat (first | apply kB | apply kC | apply kE)); exact BK434.out) hb); clear hb hbox hg; have hnb19 := NB434_435.out; have hnc19 := NB435_434.out; have hcz20_0 : w18.cell? ⟨gb434, 0, none⟩ = some (.slice A0_0 l0_0.length c0_0) := (blk_cell BK434.out 0).trans rfl; have hcz20_1 : w18.cell? ⟨gb434, 1, none⟩ = some (.slice A0_1 l0_1.length c0_1) := (blk_cell BK434.out 1).trans rfl; have hfz20_0 := blk_frozen BK434.out 0; have hfz20_1 := blk_frozen BK434.out 1; have hcz21_0 : w18.cell? ⟨gb435, 0, none⟩ = some (.slice A1_0 l1_0.length c1_0) := (blk_cell BK435.out 0).trans rfl; have hcz21_1 : w18.cell? ⟨gb435, 1, none⟩ = some (.slice A1_1 l1_1.length c1_1) := (blk_cell BK435.out 1).trans rfl; have hfz21_0 := blk_frozen BK435.out 0; have hfz21_1 := blk_frozen BK435.out 1) | ((with_reducible refine gate_callee (f := 24) rfl ?_); refine goesL_ (some 9) rfl rfl Try.func24 (by kernel_rfl) rfl #[.slice A0_0 l0_0.length c0_0, .slice A1_0 l1_0.length c1_0] rfl (by (try simp only [List.map_toArray, List.map_cons, List.map_nil]); first | done | rfl) ?_; (with_reducible refine (laws_eqIntS.calls k _ _ l0_0 _ _ l1_0 false _ ?side1 ?side2 ?side3 ?side4 A3.out).mono ?_); (case side1 => repeat (first | exact (Kd.C_below HR0_0.out HB.out) | (with_reducible first | apply cA | apply cN | apply cD))); (case side2 => exact HC0_0.out); (case side3 => repeat (first | exact (Kd.C_below HR1_0.out HB.out) | (with_reducible first | apply cA | apply cN | apply cD))); (case side4 => exact HC1_0.out); rintro e w' ⟨rfl, ⟨nd, rfl⟩⟩; refine ⟨_, rfl, ?_⟩))
  go_ret
  exact ⟨by first | rfl | (simp [*, errW_none, errW_some] <;> rfl), by repeat (with_reducible first | exact HB.out | apply bA | apply bN | apply bD | refine bS ?_ GE434.out | refine bS ?_ GE435.out)⟩

/-! ### laws_markIntS: function 25 -/
def laws_markIntS.l0 : Nat → List Int → Int → Int → Option (Int × List Int)
 | 0, _, _, _ => none
 | k + 1, x0, x1, x5 => if x5 < (x0.length : Int) then (if 0 ≤ x5 then (laws_markIntS.l0 k (x0.set (x5 : Int).toNat x1) (wrap64 (x1 + 1)) (wrap64 (x5 + 1))) else (none)) else (some (x1, x0))
def laws_markIntS.f (k : Nat) (l0 : List Int) (a1 : Int) : Option (Int × List Int) := laws_markIntS.l0 k l0 a1 0
theorem laws_markIntS.mono_l : ∀ k, (∀ y0 y1 y2, LeO (laws_markIntS.l0 k y0 y1 y2) (laws_markIntS.l0 (k + 1) y0 y1 y2))
 | 0 => fun _ _ _ r h => by simp [laws_markIntS.l0] at h
 | k + 1 => by
  have ih0 := laws_markIntS.mono_l k
  ·intro y0 y1 y2
   unfold laws_markIntS.l0
   repeat' first
    | (with_reducible first | exact ih0 _ _ _ | exact LeO.refl _ | exact LeO.none _ | refine LeO.ite ?_ ?_ | refine LeO.bind ?_ (fun _ => ?_))
    | exact LeO.none _
    | refine LeO.ite ?_ ?_
    | refine LeO.bind ?_ (fun _ => ?_)
theorem laws_markIntS.mono : ∀ a0 a1 k, LeO (laws_markIntS.f k a0 a1) (laws_markIntS.f (k + 1) a0 a1) := by
 intro a0 a1 k
 have ih0 := laws_markIntS.mono_l k
 unfold laws_markIntS.f
 repeat' first
  | (with_reducible first | exact ih0 _ _ _ | exact LeO.refl _ | exact LeO.none _ | refine LeO.ite ?_ ?_ | refine LeO.bind ?_ (fun _ => ?_))
  | exact LeO.none _
  | refine LeO.ite ?_ ?_
  | refine LeO.bind ?_ (fun _ => ?_)
theorem laws_markIntS.calls (k : Nat) (P0_ : Nat → Prop) (u9000_ : Value) (l0 : List Int) (a1 r1 : Int) (r2 : List Int) (w0 w : World) (hB : Below w0.heap.size w0 w) (ho0 : Kd.R (Kd.int .i64) 3 w w0.heap.size P0_ u9000_ l0) (h : laws_markIntS.f k l0 a1 = some (r1, r2)) :
  Calls Try.prog 25 #[u9000_, .int .i64 a1] w fun e w' => e = .returned (.int .i64 r1) ∧ Kd.R (Kd.int .i64) 3 w' w0.heap.size (fun k_ => (P0_ k_ ∨ w.heap.size ≤ k_)) u9000_ r2 ∧ Below w0.heap.size w0 w' ∧ Kept w w' (fun k_ => P0_ k_) := by
 have HO0 := am (show Kd.R (Kd.int .i64) 3 w w0.heap.size (fun k_ => (P0_ k_ ∨ w.heap.size ≤ k_)) u9000_ l0 from Kd.R_mono ho0 (fun k_ hk => (.inl hk)))
 have HK := am (Kept.refl w (fun k_ => P0_ k_))
 have HW0 := am hB.size
 have HB := am hB
 clear hB
 have H : (laws_markIntS.l0 k l0 a1 0) = some (r1, r2) := h
 clear h
 have H' := am H
 clear H
 go_enter Try.func25, Try.ntmps25
 go_wp2
 go_loopg [1, 5] k (fun kq v1 v5 w' => ∃ (x0_1 : List Int) (x1_1 : Int) (x5_1 : Int), v1 = .int .i64 x1_1 ∧ v5 = .int .i64 x5_1 ∧ Aside0 (laws_markIntS.l0 kq x0_1 x1_1 x5_1 = some (r1, r2)) ∧ Aside0 (kq ≤ k) ∧ Aside0 (Kd.R (Kd.int .i64) 3 w' w0.heap.size (fun k_ => (P0_ k_ ∨ w.heap.size ≤ k_)) u9000_ x0_1) ∧ Aside0 (Kept w w' (fun k_ => P0_ k_)) ∧ Aside0 (Below w0.heap.size w0 w'))
 case atStart => exact ⟨(l0), (a1), (0), (by first | rfl | (simp; done) | (simp [*]; done)), (by first | rfl | (simp; done) | (simp [*]; done)), H', ⟨Nat.le_refl _⟩, ⟨by (with_reducible repeat (first | apply rA | apply rN | apply rD)); exact HO0.out⟩, ⟨by repeat (first | exact HK.out | apply Kept.alloc | apply Kept.drewN | apply Kept.drew)⟩, ⟨by repeat (with_reducible first | exact HB.out | apply bA | apply bN | apply bD)⟩⟩
 case round =>
  clear H'
  try clear p2
  obtain ⟨x0_1, x1_1, x5_1, rfl, rfl, HA, HK1, HO_0, HK, HB⟩ := hrel
  cases gk with
  | zero => exact absurd HA.out (by simp [laws_markIntS.l0])
  | succ k1 =>
   have H := HA.out
   clear HA
   simp only [laws_markIntS.l0] at H
   by_cases c3 : x5_1 < (x0_1.length : Int)
   ·rw [if_pos c3] at H
    have c3b0 : decide (x5_1 < (x0_1.length : Int)) = true := decide_eq_true c3
    clear c3
    by_cases c4 : 0 ≤ x5_1
    ·rw [if_pos c4] at H
     have c4b0 : decide (0 ≤ x5_1) = true := decide_eq_true c4
     clear c4
     obtain ⟨y438, hy438⟩ : ∃ y_ : List Int, y_ = (x0_1.set (x5_1 : Int).toNat x1_1) := ⟨_, rfl⟩
     replace H : (laws_markIntS.l0 k1 y438 (wrap64 (x1_1 + 1)) (wrap64 (x5_1 + 1))) = some (r1, r2) := by first | (rw [hy438]; with_reducible exact H) | (have H2_ := (Option.bind_some _ _).symm.trans H; rw [hy438]; with_reducible exact H2_) | (have H2_ := (Option.bind_some _ _).symm.trans H; with_reducible exact H2_) | with_reducible exact H | (rw [hy438]; exact H) | exact H
     have Ny438 := am hy438
     clear hy438
     have H' := am H
     clear H
     obtain ⟨Ao6, co6, eo6⟩ := Kd.R_slice HO_0.out
     subst eo6
     have p5 : 0 ≤ (x5_1 : Int) := of_decide_eq_true (by assumption)
     have q5 : (x5_1 : Int) < ((x0_1.length : Int) : Int) := of_decide_eq_true (by assumption)
     obtain ⟨go5, co5, eo5, gb5, gl5, cl5, HG5⟩ := Kd.R_form HO_0.out (by omega)
     (first | cases eo5 | (injection eo5 with ea_ en_ ec_; (first | subst ea_ | (injection ea_ with ea_; subst ea_)); subst ec_; clear en_))
     have GB5 := am gb5
     have GG5 := am HG5
     clear gb5 gl5 HG5
     have HMgo5 := am (show (P0_ go5 ∨ w.heap.size ≤ go5) from (HO_0.out.1 _ rfl))
     obtain ⟨hx5_0, hf5_0⟩ := Kd.R_celln 0 HO_0.out (x5_1 : Int) p5 q5
     replace p5 := eq_true p5
     replace q5 := eq_true q5
     have HP7 := Kd.R_putg HO_0.out (x5_1 : Int) x1_1
     go_wp2_with (first | ((with_reducible refine gate_store (t := 3) (p := 15) rfl ?_); refine store_event (t := 3) (p := 15) (v := ?vo_w8) (w1 := (wr.setCell ⟨go5, (x5_1 : Int).toNat, none⟩ (.int .i64 x1_1))) ?hg ?ho ?hn ?hr ?_; (case ho => rfl); (case hg => rfl); (case hn => rfl); (case hr => first | (go_simp; done) | (go_simp; rfl)); intro w8 hw; have hg : wr.grownBy w8 (some go5) := (by rw [hw]; exact HP7.2); have hp_ : Kd.R (Kd.int .i64) 3 w8 w0.heap.size (fun k_ => (P0_ k_ ∨ w.heap.size ≤ k_)) (.slice (some ⟨go5, 0, none⟩) x0_1.length co6) y438 := (by rw [hw, Ny438.out]; exact HP7.1); clear HP7; replace HB := am ((by rw [hw]; exact bS (HB.out) GB5.out : Below w0.heap.size w0 w8)); replace HK := am (Kept.of_grown (S := (fun k_ => P0_ k_)) hg (by repeat (first | exact HK.out | apply Kept.alloc | apply Kept.drewN | apply Kept.drew)) (fun k_ e_ => (HO_0.out.1 k_ e_))); replace HO_0 := am (hp_); clear hg hw hp_))
     go_roundg k1
     case measure => have := HK1.out; omega
     case rel => exact ⟨(y438), (wrap64 (x1_1 + 1)), (wrap64 (x5_1 + 1)), (by first | rfl | (simp; done) | (simp [*]; done)), (by first | rfl | (simp; done) | (simp [*]; done)), H', ⟨by have := HK1.out; omega⟩, ⟨by (with_reducible repeat (first | apply rA | apply rN | apply rD)); exact HO_0.out⟩, ⟨by repeat (first | exact HK.out | apply Kept.alloc | apply Kept.drewN | apply Kept.drew)⟩, ⟨by repeat (with_reducible first | exact HB.out | apply bA | apply bN | apply bD)⟩⟩
    ·rw [if_neg c4] at H
     exact absurd H (by simp)
   ·rw [if_neg c3] at H
    have c3b0 : decide (x5_1 < (x0_1.length : Int)) = false := decide_eq_false c3
    clear c3
    simp only [Option.some.injEq, Prod.mk.injEq] at H
    obtain ⟨rfl, rfl⟩ := H
    obtain ⟨Ao9, co9, eo9⟩ := Kd.R_slice HO_0.out
    subst eo9
    go_wp2
    go_ret
    exact ⟨by first | rfl | (simp [*, errW_none, errW_some] <;> rfl), by (with_reducible repeat (first | apply rA | apply rN | apply rD)); exact HO_0.out, by repeat (with_reducible first | exact HB.out | apply bA | apply bN | apply bD), by repeat (first | exact HK.out | apply Kept.alloc | apply Kept.drewN | apply Kept.drew)⟩

/-! ### laws_markMeander: function 10 -/
def laws_markMeander.f (k : Nat) (l0_0 : List Int) (l0_1 : List Int) (a1 : Int) : Option (Int × List Int × List Int) := (laws_markIntS.f k l0_0 a1).bind fun bt440 => ((laws_markIntS.f k l0_1 bt440.1).bind fun bt442 => (some (bt442.1, bt440.2, bt442.2)))
theorem laws_markMeander.mono : ∀ a0 a1 a2 k, LeO (laws_markMeander.f k a0 a1 a2) (laws_markMeander.f (k + 1) a0 a1 a2) := by
 intro a0 a1 a2 k
 unfold laws_markMeander.f
 repeat' first
  | (with_reducible first | exact laws_markIntS.mono _ _ _ | exact LeO.refl _ | exact LeO.none _ | refine LeO.ite ?_ ?_ | refine LeO.bind ?_ (fun _ => ?_))
  | exact LeO.none _
  | refine LeO.ite ?_ ?_
  | refine LeO.bind ?_ (fun _ => ?_)
theorem laws_markMeander.calls (k : Nat) (P0_0_ : Nat → Prop) (u9000_ : Value) (l0_0 : List Int) (P0_1_ : Nat → Prop) (u9001_ : Value) (l0_1 : List Int) (a1 r1 : Int) (r2 r3 : List Int) (w0 w : World) (hB : Below w0.heap.size w0 w) (ho0_0 : Kd.R (Kd.int .i64) 3 w w0.heap.size P0_0_ u9000_ l0_0) (hp0_0_0_1 : ∀ k_, P0_0_ k_ → ¬ P0_1_ k_) (ho0_1 : Kd.R (Kd.int .i64) 3 w w0.heap.size P0_1_ u9001_ l0_1) (hp0_1_0_0 : ∀ k_, P0_1_ k_ → ¬ P0_0_ k_) (h : laws_markMeander.f k l0_0 l0_1 a1 = some (r1, r2, r3)) :
  Calls Try.prog 10 #[.agg #[u9000_, u9001_], .int .i64 a1] w fun e w' => e = .returned (.int .i64 r1) ∧ Kd.R (Kd.int .i64) 3 w' w0.heap.size (fun k_ => ((P0_0_ k_ ∨ P0_1_ k_) ∨ w.heap.size ≤ k_)) u9000_ r2 ∧ Kd.R (Kd.int .i64) 3 w' w0.heap.size (fun k_ => ((P0_0_ k_ ∨ P0_1_ k_) ∨ w.heap.size ≤ k_)) u9001_ r3 ∧ Below w0.heap.size w0 w' ∧ Kept w w' (fun k_ => P0_0_ k_ ∨ P0_1_ k_) := by
 have hu30 := Try.underlying30
 have HO0_0 := am (show Kd.R (Kd.int .i64) 3 w w0.heap.size (fun k_ => ((P0_0_ k_ ∨ P0_1_ k_) ∨ w.heap.size ≤ k_) ∧ some k_ ≠ (u9001_ : Value).ownBlock) u9000_ l0_0 from Kd.R_mono ho0_0 (fun k_ hk => ⟨(.inl (.inl hk)), fun e_ => hp0_0_0_1 k_ hk (ho0_1.1 k_ e_.symm)⟩))
 have HO0_1 := am (show Kd.R (Kd.int .i64) 3 w w0.heap.size (fun k_ => ((P0_0_ k_ ∨ P0_1_ k_) ∨ w.heap.size ≤ k_) ∧ some k_ ≠ (u9000_ : Value).ownBlock) u9001_ l0_1 from Kd.R_mono ho0_1 (fun k_ hk => ⟨(.inl (.inr hk)), fun e_ => hp0_1_0_0 k_ hk (ho0_0.1 k_ e_.symm)⟩))
 have HK := am (Kept.refl w (fun k_ => P0_0_ k_ ∨ P0_1_ k_))
 have HW0 := am hB.size
 have HB := am hB
 clear hB
 have H : ((laws_markIntS.f k l0_0 a1).bind fun bt440 => ((laws_markIntS.f k l0_1 bt440.1).bind fun bt442 => (some (bt442.1, bt440.2, bt442.2)))) = some (r1, r2, r3) := h
 clear h
 replace H := Option.bind_eq_some_iff.mp H
 obtain ⟨⟨t440, t441⟩, A30, H⟩ := H
 replace H : ((laws_markIntS.f k l0_1 t440).bind fun bt442 => (some (bt442.1, t441, bt442.2))) = some (r1, r2, r3) := H
 have A3 := am A30
 clear A30
 replace H := Option.bind_eq_some_iff.mp H
 obtain ⟨⟨t442, t443⟩, A40, H⟩ := H
 replace H : (some (t442, t441, t443)) = some (r1, r2, r3) := H
 have A4 := am A40
 clear A40
 simp only [Option.some.injEq, Prod.mk.injEq] at H
 obtain ⟨rfl, rfl, rfl⟩ := H
 obtain ⟨Ao5, co5, eo5⟩ := Kd.R_slice HO0_0.out
 subst eo5
 obtain ⟨Ao6, co6, eo6⟩ := Kd.R_slice HO0_1.out
 subst eo6
 go_enter Try.func10, Try.ntmps10
 go_wp2_with (first | ((with_reducible refine gate_dst (N := 2) rfl ?_); refine box_event ?hg (N := 2) ?hd (cs := #[.slice Ao5 l0_0.length co5, .slice Ao6 l0_1.length co6]) (t := 30) ?hr ?_; (case hd => rfl); (case hg => rfl); (case hr => first | (go_simp; done) | (go_simp; rfl)); intro gb439 hg w7 hbox hb; replace HO0_0 := am (Kd.R_below (by (with_reducible repeat (first | apply rA | apply rN | apply rD)); exact HO0_0.out) hb); replace HO0_1 := am (Kd.R_below (by (with_reducible repeat (first | apply rA | apply rN | apply rD)); exact HO0_1.out) hb); have BK439 := am (hbox); have GW439 := am ((by rw [hg]; exact (by first | exact HK.out.1 | exact (show Kept w _ (fun k_ => P0_0_ k_ ∨ P0_1_ k_) from by repeat (first | exact HK.out | apply Kept.alloc | apply Kept.drewN | apply Kept.drew)).1) : w.heap.size ≤ gb439)); replace HK := am (Kept.below (S := (fun k_ => P0_0_ k_ ∨ P0_1_ k_)) (by repeat (first | exact HK.out | apply Kept.alloc | apply Kept.drewN | apply Kept.drew)) hb); have GE439 := am ((by rw [hg]; exact (below_size (by repeat (with_reducible first | exact HB.out | apply bA | apply bN | apply bD))) : w0.heap.size ≤ gb439)); replace HB := am (below_step (by repeat (with_reducible first | exact HB.out | apply bA | apply bN | apply bD)) hb); clear hb hbox hg; have hcz8_0 : w7.cell? ⟨gb439, 0, none⟩ = some (.slice Ao5 l0_0.length co5) := (blk_cell BK439.out 0).trans rfl; have hcz8_1 : w7.cell? ⟨gb439, 1, none⟩ = some (.slice Ao6 l0_1.length co6) := (blk_cell BK439.out 1).trans rfl; have hfz8_0 := blk_frozen BK439.out 0; have hfz8_1 := blk_frozen BK439.out 1) | ((with_reducible refine gate_callee (f := 25) rfl ?_); refine goesL_ (some 8) rfl rfl Try.func25 (by kernel_rfl) rfl #[.slice Ao5 l0_0.length co5, .int .i64 a1] rfl (by (try simp only [List.map_toArray, List.map_cons, List.map_nil]); first | done | rfl) ?_; (with_reducible refine (laws_markIntS.calls k (fun k_ => some k_ = (.slice Ao5 l0_0.length co5 : Value).ownBlock) (.slice Ao5 l0_0.length co5) l0_0 a1 t440 t441 w0 _ ?side1 ?side2 A3.out).mono ?_); (case side1 => repeat (with_reducible first | exact HB.out | apply bA | apply bN | apply bD | refine bS ?_ GE439.out)); (case side2 => exact Kd.R_tight rfl HO0_0.out); rintro e w9 ⟨rfl, hy0, hb, hkp⟩; refine ⟨_, rfl, ?_⟩; replace HO0_1 := am (Kd.R_mono (ok' := fun k_ => ((P0_0_ k_ ∨ P0_1_ k_) ∨ w.heap.size ≤ k_) ∧ some k_ ≠ (.slice Ao5 l0_0.length co5 : Value).ownBlock) (Kd.R_keptB (HO0_1.out) hkp (fun k_ hk_ hs_ => (hk_.2) hs_)) (fun k_ hk_ => ⟨hk_.1.1, hk_.1.2⟩)); replace BK439 := am (blk_kept (by (with_reducible repeat (first | apply kB | apply kC | apply kE)); exact BK439.out) hkp (fun hs_ => (fun e_ => (Kd.R_ne HO0_0.out BK439.out (by decide)) e_) hs_)); replace HK := am (Kept.then_ (S := (fun k_ => P0_0_ k_ ∨ P0_1_ k_)) (by repeat (first | exact HK.out | apply Kept.alloc | apply Kept.drewN | apply Kept.drew | refine Kept.setCell ?_ (.inr GW439.out) _)) hkp (fun k_ hs_ => (fun e_ => (HO0_0.out.1 k_ e_.symm).1) hs_)); replace HO0_0 := am (Kd.R_reok rfl hy0 (fun k_ e_ => HO0_0.out.1 k_ e_)); replace HB := am (hb); (try clear hb); (try clear hkp); (try clear hy0); have hcz10_0 : w9.cell? ⟨gb439, 0, none⟩ = some (.slice Ao5 l0_0.length co5) := (blk_cell BK439.out 0).trans rfl; have hcz10_1 : w9.cell? ⟨gb439, 1, none⟩ = some (.slice Ao6 l0_1.length co6) := (blk_cell BK439.out 1).trans rfl; have hfz10_0 := blk_frozen BK439.out 0; have hfz10_1 := blk_frozen BK439.out 1) | ((with_reducible refine gate_callee (f := 25) rfl ?_); refine goesL_ (some 12) rfl rfl Try.func25 (by kernel_rfl) rfl #[.slice Ao6 l0_1.length co6, .int .i64 t440] rfl (by (try simp only [List.map_toArray, List.map_cons, List.map_nil]); first | done | rfl) ?_; (with_reducible refine (laws_markIntS.calls k (fun k_ => some k_ = (.slice Ao6 l0_1.length co6 : Value).ownBlock) (.slice Ao6 l0_1.length co6) l0_1 t440 t442 t443 w0 _ ?side1 ?side2 A4.out).mono ?_); (case side1 => repeat (with_reducible first | exact HB.out | apply bA | apply bN | apply bD | refine bS ?_ GE439.out)); (case side2 => exact Kd.R_tight rfl HO0_1.out); rintro e w11 ⟨rfl, hy0, hb, hkp⟩; refine ⟨_, rfl, ?_⟩; replace HO0_0 := am (Kd.R_mono (ok' := fun k_ => ((P0_0_ k_ ∨ P0_1_ k_) ∨ w.heap.size ≤ k_) ∧ some k_ ≠ (.slice Ao6 l0_1.length co6 : Value).ownBlock) (Kd.R_keptB (HO0_0.out) hkp (fun k_ hk_ hs_ => (hk_.2) hs_)) (fun k_ hk_ => ⟨hk_.1.1, hk_.1.2⟩)); replace BK439 := am (blk_kept (by (with_reducible repeat (first | apply kB | apply kC | apply kE)); exact BK439.out) hkp (fun hs_ => (fun e_ => (Kd.R_ne HO0_1.out BK439.out (by decide)) e_) hs_)); replace HK := am (Kept.then_ (S := (fun k_ => P0_0_ k_ ∨ P0_1_ k_)) (by repeat (first | exact HK.out | apply Kept.alloc | apply Kept.drewN | apply Kept.drew | refine Kept.setCell ?_ (.inr GW439.out) _)) hkp (fun k_ hs_ => (fun e_ => (HO0_1.out.1 k_ e_.symm).1) hs_)); replace HO0_1 := am (Kd.R_reok rfl hy0 (fun k_ e_ => HO0_1.out.1 k_ e_)); replace HB := am (hb); (try clear hb); (try clear hkp); (try clear hy0)))
 go_ret
 exact ⟨by first | rfl | (simp [*, errW_none, errW_some] <;> rfl), by (with_reducible repeat (first | apply rA | apply rN | apply rD)); exact Kd.R_mono HO0_0.out (fun _ hk => hk.1), by (with_reducible repeat (first | apply rA | apply rN | apply rD)); exact Kd.R_mono HO0_1.out (fun _ hk => hk.1), by repeat (with_reducible first | exact HB.out | apply bA | apply bN | apply bD | refine bS ?_ GE439.out), by repeat (first | exact HK.out | apply Kept.alloc | apply Kept.drewN | apply Kept.drew | refine Kept.setCell ?_ (.inr GW439.out) _)⟩

end Go.Proofs.Ytmiliifbkgaalaa.QFnExactStateBehind
