-- Written by wip/myprint.py (a program of mine round the kit's printer). Lean checks it.
import Derived.Test.YtlbaldejaapbiaaQFnExactStatesAfterx0
import Derived.Test.YtlbaldejaapbiaaQFnExactStatesAfterx1
import Derived.Test.YtlbaldejaapbiaaQFnExactStatesAfterx3
namespace Go.Proofs.Ytlbaldejaapbiaa.QFnExactStatesAfter
open Go.RowKit Go.Proofs.YtlbaldejaapbiaaW.PrintWords Go.Proofs.YtlbaldejaapbiaaW.PrintLast Go.Proofs.YtlbaldejaapbiaaW.PrintMore
attribute [local go_sem] max2_int min2_int max_two min_two max_three min_three max_four min_four
set_option linter.unusedVariables false
set_option linter.unusedSimpArgs false
set_option maxHeartbeats 8000000
set_option maxRecDepth 100000
mutual
def spec_stStep.j0 : Nat → Int → List Int → List Int → Int → Int → Int → Bool → Option (List Int × List Int × Int × Bool)
 | 0, _, _, _, _, _, _, _ => none
 | k + 1, x1, x6, x7, x8, x9, x10, x46 => if x46 = true then (some (([] : List Int), ([] : List Int), 0, false)) else (if x1 = 0 then (if x6.length < 17592186044416 then (if x7.length < 17592186044416 then ((spec_stRename.f k (x6 ++ [(-1)]) (x7 ++ [(-1)])).bind fun bt184 => ((spec_stGood.f k bt184.1 bt184.2 x8).bind fun t191 => (some (bt184.1, bt184.2, x8, t191)))) else (none)) else (none)) else (if x1 = 1 then (if 0 ≤ x10 then (if x10 < (x7.length : Int) then (if x6.length < 17592186044416 then (if x10 ≤ (x7.length : Int) then ((spec_stRename.f k (x6 ++ [rd x7 x10]) (x7.take (x10 : Int).toNat)).bind fun bt199 => ((spec_stGood.f k bt199.1 bt199.2 x8).bind fun t206 => (some (bt199.1, bt199.2, x8, t206)))) else (none)) else (none)) else (none)) else (none)) else (if x1 = 2 then (if 0 ≤ x9 then (if x9 < (x6.length : Int) then (if x7.length < 17592186044416 then (if x9 ≤ (x6.length : Int) then ((spec_stRename.f k (x6.take (x9 : Int).toNat) (x7 ++ [rd x6 x9])).bind fun bt214 => ((spec_stGood.f k bt214.1 bt214.2 x8).bind fun t221 => (some (bt214.1, bt214.2, x8, t221)))) else (none)) else (none)) else (none)) else (none)) else (if 0 ≤ x9 then (if x9 < (x6.length : Int) then (if 0 ≤ x10 then (if x10 < (x7.length : Int) then (if x9 ≤ (x6.length : Int) then ((some (x6.take (x9 : Int).toNat : List Int)).bind fun y224 => (if x10 ≤ (x7.length : Int) then ((some (x7.take (x10 : Int).toNat : List Int)).bind fun y227 => (if (rd x6 x9) = (rd x7 x10) then (spec_stStep.j1 k y224 y227 (wrap64 (x8 + 1)) (rd x6 x9) (rd x7 x10)) else (spec_stStep.j1 k y224 y227 x8 (rd x6 x9) (rd x7 x10)))) else (none))) else (none)) else (none)) else (none)) else (none)) else (none)))))
def spec_stStep.j1 : Nat → List Int → List Int → Int → Int → Int → Option (List Int × List Int × Int × Bool)
 | 0, _, _, _, _, _ => none
 | k + 1, x6, x7, x8, x11, x12 => spec_stStep.l0 k x6 x7 x8 x11 x12 (x6.length : Int) 0
def spec_stStep.l0 : Nat → List Int → List Int → Int → Int → Int → Int → Int → Option (List Int × List Int × Int × Bool)
 | 0, _, _, _, _, _, _, _ => none
 | k + 1, x6, x7, x8, x11, x12, x69, x70 => if x70 < x69 then (if 0 ≤ x70 then (if x70 < (x6.length : Int) then (if (rd x6 x70) = x12 then (spec_stStep.l0 k (x6.set (x70 : Int).toNat x11) x7 x8 x11 x12 x69 (wrap64 (x70 + 1))) else (spec_stStep.l0 k x6 x7 x8 x11 x12 x69 (wrap64 (x70 + 1)))) else (none)) else (none)) else (spec_stStep.l1 k x6 x7 x8 x11 x12 (x7.length : Int) 0)
def spec_stStep.l1 : Nat → List Int → List Int → Int → Int → Int → Int → Int → Option (List Int × List Int × Int × Bool)
 | 0, _, _, _, _, _, _, _ => none
 | k + 1, x6, x7, x8, x11, x12, x85, x86 => if x86 < x85 then (if 0 ≤ x86 then (if x86 < (x7.length : Int) then (if (rd x7 x86) = x12 then (spec_stStep.l1 k x6 (x7.set (x86 : Int).toNat x11) x8 x11 x12 x85 (wrap64 (x86 + 1))) else (spec_stStep.l1 k x6 x7 x8 x11 x12 x85 (wrap64 (x86 + 1)))) else (none)) else (none)) else ((spec_stRename.f k x6 x7).bind fun bt234 => ((spec_stGood.f k bt234.1 bt234.2 x8).bind fun t241 => (some (bt234.1, bt234.2, x8, t241))))
end
def spec_stStep.f (k : Nat) (l0_0 : List Int) (l0_1 : List Int) (a0_2 : Int) (a1 : Int) : Option (List Int × List Int × Int × Bool) := (spec_l1Own.f l0_0).bind fun t172 => ((spec_l1Own.f l0_1).bind fun t175 => (if a1 ≥ 2 then (if (wrap64 ((t172.length : Int) - 1)) < 0 then (spec_stStep.j0 k a1 t172 t175 a0_2 (wrap64 ((t172.length : Int) - 1)) (wrap64 ((t175.length : Int) - 1)) true) else (if (Int.tmod a1 2) = 1 then (spec_stStep.j0 k a1 t172 t175 a0_2 (wrap64 ((t172.length : Int) - 1)) (wrap64 ((t175.length : Int) - 1)) (decide ((wrap64 ((t175.length : Int) - 1)) < 0))) else (spec_stStep.j0 k a1 t172 t175 a0_2 (wrap64 ((t172.length : Int) - 1)) (wrap64 ((t175.length : Int) - 1)) false))) else (if (Int.tmod a1 2) = 1 then (spec_stStep.j0 k a1 t172 t175 a0_2 (wrap64 ((t172.length : Int) - 1)) (wrap64 ((t175.length : Int) - 1)) (decide ((wrap64 ((t175.length : Int) - 1)) < 0))) else (spec_stStep.j0 k a1 t172 t175 a0_2 (wrap64 ((t172.length : Int) - 1)) (wrap64 ((t175.length : Int) - 1)) false))))
theorem spec_stStep.mono_l : ∀ k, (∀ y0 y1 y2 y3 y4 y5 y6, LeO (spec_stStep.j0 k y0 y1 y2 y3 y4 y5 y6) (spec_stStep.j0 (k + 1) y0 y1 y2 y3 y4 y5 y6)) ∧ (∀ y0 y1 y2 y3 y4, LeO (spec_stStep.j1 k y0 y1 y2 y3 y4) (spec_stStep.j1 (k + 1) y0 y1 y2 y3 y4)) ∧ (∀ y0 y1 y2 y3 y4 y5 y6, LeO (spec_stStep.l0 k y0 y1 y2 y3 y4 y5 y6) (spec_stStep.l0 (k + 1) y0 y1 y2 y3 y4 y5 y6)) ∧ (∀ y0 y1 y2 y3 y4 y5 y6, LeO (spec_stStep.l1 k y0 y1 y2 y3 y4 y5 y6) (spec_stStep.l1 (k + 1) y0 y1 y2 y3 y4 y5 y6))
 | 0 => ⟨fun _ _ _ _ _ _ _ r h => by simp [spec_stStep.j0] at h, fun _ _ _ _ _ r h => by simp [spec_stStep.j1] at h, fun _ _ _ _ _ _ _ r h => by simp [spec_stStep.l0] at h, fun _ _ _ _ _ _ _ r h => by simp [spec_stStep.l1] at h⟩
 | k + 1 => by
  obtain ⟨ih0, ih1, ih2, ih3⟩ := spec_stStep.mono_l k
  refine ⟨?_, ?_, ?_, ?_⟩
  ·intro y0 y1 y2 y3 y4 y5 y6
   unfold spec_stStep.j0
   repeat' first
    | (with_reducible first | exact ih0 _ _ _ _ _ _ _ | exact ih1 _ _ _ _ _ | exact ih2 _ _ _ _ _ _ _ | exact ih3 _ _ _ _ _ _ _ | exact spec_stGood.mono _ _ _ _ | exact spec_stRename.mono _ _ _ | exact LeO.refl _ | exact LeO.none _ | refine LeO.ite ?_ ?_ | refine LeO.bind ?_ (fun _ => ?_))
    | exact LeO.none _
    | refine LeO.ite ?_ ?_
    | refine LeO.bind ?_ (fun _ => ?_)
  ·intro y0 y1 y2 y3 y4
   unfold spec_stStep.j1
   repeat' first
    | (with_reducible first | exact ih0 _ _ _ _ _ _ _ | exact ih1 _ _ _ _ _ | exact ih2 _ _ _ _ _ _ _ | exact ih3 _ _ _ _ _ _ _ | exact spec_stGood.mono _ _ _ _ | exact spec_stRename.mono _ _ _ | exact LeO.refl _ | exact LeO.none _ | refine LeO.ite ?_ ?_ | refine LeO.bind ?_ (fun _ => ?_))
    | exact LeO.none _
    | refine LeO.ite ?_ ?_
    | refine LeO.bind ?_ (fun _ => ?_)
  ·intro y0 y1 y2 y3 y4 y5 y6
   unfold spec_stStep.l0
   repeat' first
    | (with_reducible first | exact ih0 _ _ _ _ _ _ _ | exact ih1 _ _ _ _ _ | exact ih2 _ _ _ _ _ _ _ | exact ih3 _ _ _ _ _ _ _ | exact spec_stGood.mono _ _ _ _ | exact spec_stRename.mono _ _ _ | exact LeO.refl _ | exact LeO.none _ | refine LeO.ite ?_ ?_ | refine LeO.bind ?_ (fun _ => ?_))
    | exact LeO.none _
    | refine LeO.ite ?_ ?_
    | refine LeO.bind ?_ (fun _ => ?_)
  ·intro y0 y1 y2 y3 y4 y5 y6
   unfold spec_stStep.l1
   repeat' first
    | (with_reducible first | exact ih0 _ _ _ _ _ _ _ | exact ih1 _ _ _ _ _ | exact ih2 _ _ _ _ _ _ _ | exact ih3 _ _ _ _ _ _ _ | exact spec_stGood.mono _ _ _ _ | exact spec_stRename.mono _ _ _ | exact LeO.refl _ | exact LeO.none _ | refine LeO.ite ?_ ?_ | refine LeO.bind ?_ (fun _ => ?_))
    | exact LeO.none _
    | refine LeO.ite ?_ ?_
    | refine LeO.bind ?_ (fun _ => ?_)
theorem spec_stStep.mono : ∀ a0 a1 a2 a3 k, LeO (spec_stStep.f k a0 a1 a2 a3) (spec_stStep.f (k + 1) a0 a1 a2 a3) := by
 intro a0 a1 a2 a3 k
 obtain ⟨ih0, ih1, ih2, ih3⟩ := spec_stStep.mono_l k
 unfold spec_stStep.f
 repeat' first
  | (with_reducible first | exact ih0 _ _ _ _ _ _ _ | exact ih1 _ _ _ _ _ | exact ih2 _ _ _ _ _ _ _ | exact ih3 _ _ _ _ _ _ _ | exact spec_stGood.mono _ _ _ _ | exact spec_stRename.mono _ _ _ | exact LeO.refl _ | exact LeO.none _ | refine LeO.ite ?_ ?_ | refine LeO.bind ?_ (fun _ => ?_))
  | exact LeO.none _
  | refine LeO.ite ?_ ?_
  | refine LeO.bind ?_ (fun _ => ?_)
def spec_stStep.T1 : Bool × List (List Nat × List Nat) := (true, [([], []), ([0], [0]), ([1], [1]), ([], []), ([3], [3]), ([4, 2], [4]), ([2, 5, 0, 1, 2], [2]), ([5, 6, 0, 1, 2, 3, 4, 5, 6], [5])])
def spec_stStep.B1 : List Nat := [0, 1, 3, 0, 8, 31, 63, 127]
theorem spec_stStep.tab1 : rtab .any (opsOf Try.f54 1) = spec_stStep.T1 := by kernel_rfl
theorem spec_stStep.bits1 : waitsOk spec_stStep.T1.2 spec_stStep.B1 = true := by kernel_rfl
def spec_stStep.T7 : Bool × List (List Nat × List Nat) := (true, [([], []), ([], []), ([0, 1], [0, 1]), ([2], [2]), ([], []), ([], []), ([4, 5], [4, 5]), ([6], [6]), ([3, 0, 1, 2, 3], [3]), ([7, 8, 0, 1, 2, 3, 4, 5, 6, 7, 8], [7])])
def spec_stStep.B7 : List Nat := [0, 0, 3, 7, 0, 0, 48, 112, 15, 511]
theorem spec_stStep.tab7 : rtab .any (opsOf Try.f54 7) = spec_stStep.T7 := by kernel_rfl
theorem spec_stStep.bits7 : waitsOk spec_stStep.T7.2 spec_stStep.B7 = true := by kernel_rfl
theorem spec_stStep.calls (k : Nat) (A0_0 : Option Addr) (c0_0 : Nat) (l0_0 : List Int) (A0_1 : Option Addr) (c0_1 : Nat) (l0_1 : List Int) (a0_2 : Int) (a1 : Int) (r1 : List Int) (r2 : List Int) (r3 : Int) (r4 : Bool) (w : World) (hr0_0 : Kd.C (Kd.int .i64) w A0_0 l0_0.length l0_0) (hc0_0 : l0_0.length ≤ c0_0) (hr0_1 : Kd.C (Kd.int .i64) w A0_1 l0_1.length l0_1) (hc0_1 : l0_1.length ≤ c0_1) (h : spec_stStep.f k l0_0 l0_1 a0_2 a1 = some (r1, r2, r3, r4)) :
 Calls Try.prog 54 #[.agg #[.slice A0_0 l0_0.length c0_0, .slice A0_1 l0_1.length c0_1, .int .i64 a0_2], .int .i64 a1] w fun e w' => ∃ v0_ v1_ : Value, e = .returned (.tuple #[.agg #[v0_, v1_, .int .i64 r3], .bool r4]) ∧ Kd.R (Kd.int .i64) 3 w' w.heap.size (fun k_ => some k_ ≠ (v1_ : Value).ownBlock) v0_ r1 ∧ Kd.R (Kd.int .i64) 3 w' w.heap.size (fun k_ => some k_ ≠ (v0_ : Value).ownBlock) v1_ r2 ∧ Below w.heap.size w w' := by
 have hu27 := Try.underlying27
 have HR0_0 := am hr0_0
 have HC0_0 := am hc0_0
 clear hr0_0 hc0_0
 have HR0_1 := am hr0_1
 have HC0_1 := am hc0_1
 clear hr0_1 hc0_1
 have HB := am (Below.refl w.heap.size w)
 have H : ((spec_l1Own.f l0_0).bind fun t172 => ((spec_l1Own.f l0_1).bind fun t175 => (if a1 ≥ 2 then (if (wrap64 ((t172.length : Int) - 1)) < 0 then (spec_stStep.j0 k a1 t172 t175 a0_2 (wrap64 ((t172.length : Int) - 1)) (wrap64 ((t175.length : Int) - 1)) true) else (if (Int.tmod a1 2) = 1 then (spec_stStep.j0 k a1 t172 t175 a0_2 (wrap64 ((t172.length : Int) - 1)) (wrap64 ((t175.length : Int) - 1)) (decide ((wrap64 ((t175.length : Int) - 1)) < 0))) else (spec_stStep.j0 k a1 t172 t175 a0_2 (wrap64 ((t172.length : Int) - 1)) (wrap64 ((t175.length : Int) - 1)) false))) else (if (Int.tmod a1 2) = 1 then (spec_stStep.j0 k a1 t172 t175 a0_2 (wrap64 ((t172.length : Int) - 1)) (wrap64 ((t175.length : Int) - 1)) (decide ((wrap64 ((t175.length : Int) - 1)) < 0))) else (spec_stStep.j0 k a1 t172 t175 a0_2 (wrap64 ((t172.length : Int) - 1)) (wrap64 ((t175.length : Int) - 1)) false))))) = some (r1, r2, r3, r4) := h
 clear h
 replace H := Option.bind_eq_some_iff.mp H
 obtain ⟨t172, A30, H⟩ := H
 replace H : ((spec_l1Own.f l0_1).bind fun t175 => (if a1 ≥ 2 then (if (wrap64 ((t172.length : Int) - 1)) < 0 then (spec_stStep.j0 k a1 t172 t175 a0_2 (wrap64 ((t172.length : Int) - 1)) (wrap64 ((t175.length : Int) - 1)) true) else (if (Int.tmod a1 2) = 1 then (spec_stStep.j0 k a1 t172 t175 a0_2 (wrap64 ((t172.length : Int) - 1)) (wrap64 ((t175.length : Int) - 1)) (decide ((wrap64 ((t175.length : Int) - 1)) < 0))) else (spec_stStep.j0 k a1 t172 t175 a0_2 (wrap64 ((t172.length : Int) - 1)) (wrap64 ((t175.length : Int) - 1)) false))) else (if (Int.tmod a1 2) = 1 then (spec_stStep.j0 k a1 t172 t175 a0_2 (wrap64 ((t172.length : Int) - 1)) (wrap64 ((t175.length : Int) - 1)) (decide ((wrap64 ((t175.length : Int) - 1)) < 0))) else (spec_stStep.j0 k a1 t172 t175 a0_2 (wrap64 ((t172.length : Int) - 1)) (wrap64 ((t175.length : Int) - 1)) false)))) = some (r1, r2, r3, r4) := H
 have A3 := am A30
 clear A30
 replace H := Option.bind_eq_some_iff.mp H
 obtain ⟨t175, A40, H⟩ := H
 replace H : (if a1 ≥ 2 then (if (wrap64 ((t172.length : Int) - 1)) < 0 then (spec_stStep.j0 k a1 t172 t175 a0_2 (wrap64 ((t172.length : Int) - 1)) (wrap64 ((t175.length : Int) - 1)) true) else (if (Int.tmod a1 2) = 1 then (spec_stStep.j0 k a1 t172 t175 a0_2 (wrap64 ((t172.length : Int) - 1)) (wrap64 ((t175.length : Int) - 1)) (decide ((wrap64 ((t175.length : Int) - 1)) < 0))) else (spec_stStep.j0 k a1 t172 t175 a0_2 (wrap64 ((t172.length : Int) - 1)) (wrap64 ((t175.length : Int) - 1)) false))) else (if (Int.tmod a1 2) = 1 then (spec_stStep.j0 k a1 t172 t175 a0_2 (wrap64 ((t172.length : Int) - 1)) (wrap64 ((t175.length : Int) - 1)) (decide ((wrap64 ((t175.length : Int) - 1)) < 0))) else (spec_stStep.j0 k a1 t172 t175 a0_2 (wrap64 ((t172.length : Int) - 1)) (wrap64 ((t175.length : Int) - 1)) false))) = some (r1, r2, r3, r4) := H
 have A4 := am A40
 clear A40
 have HC5 := am H
 clear H
 go_enter Try.func54, Try.ntmps54
 try go_wp2_with (first | ((with_reducible refine gate_dst (N := 2) rfl ?_); refine box_event ?hg (N := 2) ?hd (cs := #[.slice A0_0 l0_0.length c0_0, .slice A0_1 l0_1.length c0_1, .int .i64 a0_2]) (t := 27) ?hr ?_; (case hd => rfl); (case hg => rfl); (case hr => first | (go_simp; done) | (go_simp; rfl)); intro gb170 hg w6 hbox hb; have BK170 := am (hbox); have GW170 := am ((by rw [hg]; exact (below_size (by repeat (with_reducible first | exact HB.out | apply bA | apply bN | apply bD))) : w.heap.size ≤ gb170)); have GE170 := am ((by rw [hg]; exact (below_size (by repeat (with_reducible first | exact HB.out | apply bA | apply bN | apply bD))) : w.heap.size ≤ gb170)); replace HB := am (below_step (by repeat (with_reducible first | exact HB.out | apply bA | apply bN | apply bD)) hb); clear hb hbox hg) | ((with_reducible refine gate_dst (N := 4) rfl ?_); refine box_event ?hg (N := 4) ?hd (cs := #[.slice none 0 0, .slice none 0 0, .int .i64 0]) (t := 27) ?hr ?_; (case hd => rfl); (case hg => rfl); (case hr => first | (go_simp; done) | (go_simp; rfl)); intro gb171 hg w7 hbox hb; have BK171 := am (hbox); have GW171 := am ((by rw [hg]; exact (below_size (by repeat (with_reducible first | exact HB.out | apply bA | apply bN | apply bD | refine bS ?_ GE170.out))) : w.heap.size ≤ gb171)); have GE171 := am ((by rw [hg]; exact (below_size (by repeat (with_reducible first | exact HB.out | apply bA | apply bN | apply bD | refine bS ?_ GE170.out))) : w.heap.size ≤ gb171)); replace HB := am (below_step (by repeat (with_reducible first | exact HB.out | apply bA | apply bN | apply bD | refine bS ?_ GE170.out)) hb); have NB170_171 := am ((by rw [hg]; exact Nat.ne_of_lt (blk_lt (g := gb170) (by (with_reducible repeat (first | apply kB | apply kC | apply kE)); exact BK170.out)) : gb170 ≠ gb171)); have NB171_170 := am ((by rw [hg]; exact Nat.ne_of_gt (blk_lt (g := gb170) (by (with_reducible repeat (first | apply kB | apply kC | apply kE)); exact BK170.out)) : gb171 ≠ gb170)); replace BK170 := am (blk_below (g := gb170) (by (with_reducible repeat (first | apply kB | apply kC | apply kE)); exact BK170.out) hb); clear hb hbox hg))
 replace BK170 := am (kC BK170.out)
 replace BK171 := am (kC BK171.out)
 replace HB := am (below_drew1 HB.out)
 refine start_ (n := 8) (S := fun w' => w'.cell? ⟨gb170, 0, none⟩ = some (.slice A0_0 l0_0.length c0_0) ∧ w'.cell? ⟨gb170, 1, none⟩ = some (.slice A0_1 l0_1.length c0_1) ∧ w'.cell? ⟨gb170, 2, none⟩ = some (.int .i64 a0_2)) (ds := []) #[false, false, false, false, false, false, false, false] (by kernel_rfl) rfl rfl ⟨(blk_cell BK170.out 0).trans rfl, (blk_cell BK170.out 1).trans rfl, (blk_cell BK170.out 2).trans rfl⟩ (fun hHeld => ?_); refine with_tabW spec_stStep.tab1 spec_stStep.bits1 (fun HT_ HW_ => ?_)
 generalize w7.drew = w8 at BK170 BK171 HB hHeld ⊢
 refine pure_ (i := 0) (N := some 18) (v := ?_) (a' := ?_) #[true, false, false, false, false, false, false, false] rfl rfl (any_of HT_.out (by kernel_rfl)) (fun _ _ _ h => h) (Or.inl ⟨by rfl, ?_⟩) ?_ ?_
 rotate_left
 ·intro w'
  go_simp
  with_reducible rfl
 rotate_left
 ·simp only [Act.put, sI, s0_, s1_, i64_w, i32_w]
  rfl
 refine pure_ (i := 3) (N := some 21) (v := ?_) (a' := ?_) #[true, false, false, true, false, false, false, false] rfl rfl (any_of HT_.out (by kernel_rfl)) (fun _ _ _ h => h) (Or.inl ⟨by rfl, ?_⟩) ?_ ?_
 rotate_left
 ·intro w'
  go_simp
  with_reducible rfl
 rotate_left
 ·simp only [Act.put, sI, s0_, s1_, i64_w, i32_w]
  rfl
 refine take_ (i := 1) (N := some 19) (v := ?_) (a' := ?_) #[true, true, false, true, false, false, false, false] rfl rfl (take_ofW HT_.out HW_.out (by kernel_rfl)) (fun _ _ _ h => h) (Or.inl ⟨by rfl, ?_⟩) hHeld ?_ ?_
 rotate_left
 ·rintro w' ⟨s0, s1, s2⟩
  go_simp
  with_reducible rfl
 rotate_left
 ·simp only [Act.put, sI, s0_, s1_, i64_w, i32_w]
  rfl
 refine take_ (i := 4) (N := some 22) (v := ?_) (a' := ?_) #[true, true, false, true, true, false, false, false] rfl rfl (take_ofW HT_.out HW_.out (by kernel_rfl)) (fun _ _ _ h => h) (Or.inl ⟨by rfl, ?_⟩) hHeld ?_ ?_
 rotate_left
 ·rintro w' ⟨s0, s1, s2⟩
  go_simp
  with_reducible rfl
 rotate_left
 ·simp only [Act.put, sI, s0_, s1_, i64_w, i32_w]
  rfl
 refine one_ (i := 2) (N := some 20) #[true, true, true, true, true, false, false, false] rfl rfl (one_of HT_.out (by kernel_rfl)) (by decide) (fun K hK => ?_)
 refine goes_ Try.func71 (by kernel_rfl) rfl #[.slice A0_0 l0_0.length c0_0] (by rfl) rfl rfl (by (try simp only [mT, mC, mZ]); first | done | rfl) ?_
 with_reducible refine (spec_l1Own.calls _ _ l0_0 t172 _ ?side1 ?side2 A3.out).mono ?_
 (case side1 => repeat (first | exact (Kd.C_below HR0_0.out HB.out) | (with_reducible first | apply cA | apply cN | apply cD)))
 (case side2 => exact HC0_0.out)
 rintro e w9 ⟨v173, rfl, ho0, hb⟩
 refine ⟨_, rfl, ?_⟩
 have HO174 := am (Kd.R_lower ho0 (below_size (by repeat (with_reducible first | exact HB.out | apply bA | apply bN | apply bD | refine bS ?_ GE170.out | refine bS ?_ GE171.out))))
 replace BK170 := am (blk_below (g := gb170) (by (with_reducible repeat (first | apply kB | apply kC | apply kE)); exact BK170.out) hb)
 replace BK171 := am (blk_below (g := gb171) (by (with_reducible repeat (first | apply kB | apply kC | apply kE)); exact BK171.out) hb)
 replace HB := am (below_step (by repeat (with_reducible first | exact HB.out | apply bA | apply bN | apply bD | refine bS ?_ GE170.out | refine bS ?_ GE171.out)) hb)
 (try clear hb)
 (try clear hb2)
 (try clear hk)
 (try clear hi)
 (try clear ho0)
 refine hK.out _ _ ⟨(blk_cell BK170.out 0).trans rfl, (blk_cell BK170.out 1).trans rfl, (blk_cell BK170.out 2).trans rfl⟩ (fun hHeld => ?_)
 clear hK K
 refine norm_ (a' := ?_) ?_ ?_
 rotate_left
 ·show Act.put _ (some 20) _ = _
  simp only [Act.put, sI, s0_, s1_, i64_w, i32_w]
  rfl
 refine one_ (i := 5) (N := some 23) #[true, true, true, true, true, true, false, false] rfl rfl (one_of HT_.out (by kernel_rfl)) (by decide) (fun K hK => ?_)
 refine goes_ Try.func71 (by kernel_rfl) rfl #[.slice A0_1 l0_1.length c0_1] (by rfl) rfl rfl (by (try simp only [mT, mC, mZ]); first | done | rfl) ?_
 with_reducible refine (spec_l1Own.calls _ _ l0_1 t175 _ ?side1 ?side2 A4.out).mono ?_
 (case side1 => repeat (first | exact (Kd.C_below HR0_1.out HB.out) | (with_reducible first | apply cA | apply cN | apply cD)))
 (case side2 => exact HC0_1.out)
 rintro e w10 ⟨v176, rfl, ho0, hb⟩
 refine ⟨_, rfl, ?_⟩
 have HO177 := am (Kd.R_lower (Kd.R_new' ho0 (Kd.R_lt (by (with_reducible repeat (first | apply rA | apply rN | apply rD)); exact HO174.out))) (below_size (by repeat (with_reducible first | exact HB.out | apply bA | apply bN | apply bD | refine bS ?_ GE170.out | refine bS ?_ GE171.out))))
 replace HO174 := am (Kd.R_elder' (by (with_reducible repeat (first | apply rA | apply rN | apply rD)); exact HO174.out) (Kd.R_base ho0) hb)
 replace BK170 := am (blk_below (g := gb170) (by (with_reducible repeat (first | apply kB | apply kC | apply kE)); exact BK170.out) hb)
 replace BK171 := am (blk_below (g := gb171) (by (with_reducible repeat (first | apply kB | apply kC | apply kE)); exact BK171.out) hb)
 replace HB := am (below_step (by repeat (with_reducible first | exact HB.out | apply bA | apply bN | apply bD | refine bS ?_ GE170.out | refine bS ?_ GE171.out)) hb)
 (try clear hb)
 (try clear hb2)
 (try clear hk)
 (try clear hi)
 (try clear ho0)
 refine hK.out _ _ ⟨(blk_cell BK170.out 0).trans rfl, (blk_cell BK170.out 1).trans rfl, (blk_cell BK170.out 2).trans rfl⟩ (fun hHeld => ?_)
 clear hK K
 refine norm_ (a' := ?_) ?_ ?_
 rotate_left
 ·show Act.put _ (some 23) _ = _
  simp only [Act.put, sI, s0_, s1_, i64_w, i32_w]
  rfl
 refine pure_ (i := 6) (N := some 6) (v := ?_) (a' := ?_) #[true, true, true, true, true, true, true, false] rfl rfl (any_of HT_.out (by kernel_rfl)) (fun _ _ _ h => h) (Or.inl ⟨by rfl, ?_⟩) ?_ ?_
 rotate_left
 ·intro w'
  go_simp
  with_reducible rfl
 rotate_left
 ·simp only [Act.put, sI, s0_, s1_, i64_w, i32_w]
  rfl
 refine pure_ (i := 7) (N := some 7) (v := ?_) (a' := ?_) #[true, true, true, true, true, true, true, true] rfl rfl (any_of HT_.out (by kernel_rfl)) (fun _ _ _ h => h) (Or.inl ⟨by rfl, ?_⟩) ?_ ?_
 rotate_left
 ·intro w'
  go_simp
  with_reducible rfl
 rotate_left
 ·simp only [Act.put, sI, s0_, s1_, i64_w, i32_w]
  rfl
 refine done_ (done_of HT_.out (by kernel_rfl)) ?_
 have hnb11 := NB170_171.out
 have hnc11 := NB171_170.out
 have hcz12_0 : w10.cell? ⟨gb170, 0, none⟩ = some (.slice A0_0 l0_0.length c0_0) := (blk_cell BK170.out 0).trans rfl
 have hcz12_1 : w10.cell? ⟨gb170, 1, none⟩ = some (.slice A0_1 l0_1.length c0_1) := (blk_cell BK170.out 1).trans rfl
 have hcz12_2 : w10.cell? ⟨gb170, 2, none⟩ = some (.int .i64 a0_2) := (blk_cell BK170.out 2).trans rfl
 have hfz12_0 := blk_frozen BK170.out 0
 have hfz12_1 := blk_frozen BK170.out 1
 have hfz12_2 := blk_frozen BK170.out 2
 obtain ⟨Ao13, co13, eo13⟩ := Kd.R_slice HO174.out
 subst eo13
 obtain ⟨Ao14, co14, eo14⟩ := Kd.R_slice HO177.out
 subst eo14
 go_upto_region 4 with (fail)
 go_cut [46] (fun v46 wc => ∃ (kq : Nat) (x46_4 : Bool), v46 = .bool x46_4 ∧ Aside0 (spec_stStep.j0 kq a1 t172 t175 a0_2 (wrap64 ((t172.length : Int) - 1)) (wrap64 ((t175.length : Int) - 1)) x46_4 = some (r1, r2, r3, r4)) ∧ Aside0 (kq ≤ k) ∧ Aside0 (Kd.R (Kd.int .i64) 3 wc w.heap.size (fun k_ => some k_ ≠ ((.slice Ao14 t175.length co14) : Value).ownBlock) (.slice Ao13 t172.length co13) t172) ∧ Aside0 (Kd.R (Kd.int .i64) 3 wc w.heap.size (fun k_ => some k_ ≠ ((.slice Ao13 t172.length co13) : Value).ownBlock) (.slice Ao14 t175.length co14) t175) ∧ Aside0 (wc.heap[gb170]? = some (.cells #[(.slice A0_0 l0_0.length c0_0), (.slice A0_1 l0_1.length c0_1), .int .i64 a0_2] 27 (0, 0))) ∧ Aside0 (wc.heap[gb171]? = some (.cells #[(.slice none 0 0), (.slice none 0 0), .int .i64 0] 27 (0, 0))) ∧ Aside0 (Below w.heap.size w wc))
 case first =>
  have H := HC5.out
  clear HC5
  by_cases c15 : a1 ≥ 2
  ·rw [if_pos c15] at H
   have c15b0 : decide (2 ≤ a1) = true := decide_eq_true c15
   clear c15
   (first | rw [c15b0] | (simp only [i64_w, i32_w]; rw [c15b0]) | skip)
   by_cases c16 : (wrap64 ((t172.length : Int) - 1)) < 0
   ·rw [if_pos c16] at H
    have c16b0 : decide ((wrap64 ((t172.length : Int) - 1)) < 0) = true := decide_eq_true c16
    clear c16
    have H' := am H
    clear H
    go_wp2
    go_meet
    case rel => exact ⟨_, (true), (by first | rfl | (simp; done) | (simp [*]; done)), H', ⟨by first | omega | exact Nat.le_refl _⟩, ⟨by (with_reducible repeat (first | apply rA | apply rN | apply rD)); exact Kd.R_mono HO174.out (fun _ hk => hk.2)⟩, ⟨by (with_reducible repeat (first | apply rA | apply rN | apply rD)); exact Kd.R_mono HO177.out (fun _ hk => hk.2)⟩, ⟨by (with_reducible repeat (first | apply kB | apply kC | apply kE)); exact BK170.out⟩, ⟨by (with_reducible repeat (first | apply kB | apply kC | apply kE)); exact BK171.out⟩, ⟨by repeat (with_reducible first | exact HB.out | apply bA | apply bN | apply bD | refine bS ?_ GE170.out | refine bS ?_ GE171.out)⟩⟩
   ·rw [if_neg c16] at H
    have c16b0 : decide ((wrap64 ((t172.length : Int) - 1)) < 0) = false := decide_eq_false c16
    clear c16
    by_cases c17 : (Int.tmod a1 2) = 1
    ·rw [if_pos c17] at H
     have c17b0 : ((Int.tmod a1 2) == 1) = true := beq_iff_eq.mpr c17
     have c17b1 : ((Int.tmod a1 2) != 1) = false := bne_eq_false_iff_eq.mpr c17
     clear c17
     have H' := am H
     clear H
     go_wp2
     go_meet
     case rel => exact ⟨_, (decide ((wrap64 ((t175.length : Int) - 1)) < 0)), (by first | rfl | (simp; done) | (simp [*]; done)), H', ⟨by first | omega | exact Nat.le_refl _⟩, ⟨by (with_reducible repeat (first | apply rA | apply rN | apply rD)); exact Kd.R_mono HO174.out (fun _ hk => hk.2)⟩, ⟨by (with_reducible repeat (first | apply rA | apply rN | apply rD)); exact Kd.R_mono HO177.out (fun _ hk => hk.2)⟩, ⟨by (with_reducible repeat (first | apply kB | apply kC | apply kE)); exact BK170.out⟩, ⟨by (with_reducible repeat (first | apply kB | apply kC | apply kE)); exact BK171.out⟩, ⟨by repeat (with_reducible first | exact HB.out | apply bA | apply bN | apply bD | refine bS ?_ GE170.out | refine bS ?_ GE171.out)⟩⟩
    ·rw [if_neg c17] at H
     have c17b0 : ((Int.tmod a1 2) == 1) = false := beq_eq_false_iff_ne.mpr c17
     have c17b1 : ((Int.tmod a1 2) != 1) = true := bne_iff_ne.mpr c17
     have H' := am H
     clear H
     go_wp2
     go_meet
     case rel => exact ⟨_, (false), (by first | rfl | (simp; done) | (simp [*]; done)), H', ⟨by first | omega | exact Nat.le_refl _⟩, ⟨by (with_reducible repeat (first | apply rA | apply rN | apply rD)); exact Kd.R_mono HO174.out (fun _ hk => hk.2)⟩, ⟨by (with_reducible repeat (first | apply rA | apply rN | apply rD)); exact Kd.R_mono HO177.out (fun _ hk => hk.2)⟩, ⟨by (with_reducible repeat (first | apply kB | apply kC | apply kE)); exact BK170.out⟩, ⟨by (with_reducible repeat (first | apply kB | apply kC | apply kE)); exact BK171.out⟩, ⟨by repeat (with_reducible first | exact HB.out | apply bA | apply bN | apply bD | refine bS ?_ GE170.out | refine bS ?_ GE171.out)⟩⟩
  ·rw [if_neg c15] at H
   have c15b0 : decide (2 ≤ a1) = false := decide_eq_false c15
   clear c15
   (first | rw [c15b0] | (simp only [i64_w, i32_w]; rw [c15b0]) | skip)
   by_cases c18 : (Int.tmod a1 2) = 1
   ·rw [if_pos c18] at H
    have c18b0 : ((Int.tmod a1 2) == 1) = true := beq_iff_eq.mpr c18
    have c18b1 : ((Int.tmod a1 2) != 1) = false := bne_eq_false_iff_eq.mpr c18
    clear c18
    have H' := am H
    clear H
    go_wp2
    go_meet
    case rel => exact ⟨_, (decide ((wrap64 ((t175.length : Int) - 1)) < 0)), (by first | rfl | (simp; done) | (simp [*]; done)), H', ⟨by first | omega | exact Nat.le_refl _⟩, ⟨by (with_reducible repeat (first | apply rA | apply rN | apply rD)); exact Kd.R_mono HO174.out (fun _ hk => hk.2)⟩, ⟨by (with_reducible repeat (first | apply rA | apply rN | apply rD)); exact Kd.R_mono HO177.out (fun _ hk => hk.2)⟩, ⟨by (with_reducible repeat (first | apply kB | apply kC | apply kE)); exact BK170.out⟩, ⟨by (with_reducible repeat (first | apply kB | apply kC | apply kE)); exact BK171.out⟩, ⟨by repeat (with_reducible first | exact HB.out | apply bA | apply bN | apply bD | refine bS ?_ GE170.out | refine bS ?_ GE171.out)⟩⟩
   ·rw [if_neg c18] at H
    have c18b0 : ((Int.tmod a1 2) == 1) = false := beq_eq_false_iff_ne.mpr c18
    have c18b1 : ((Int.tmod a1 2) != 1) = true := bne_iff_ne.mpr c18
    have H' := am H
    clear H
    go_wp2
    go_meet
    case rel => exact ⟨_, (false), (by first | rfl | (simp; done) | (simp [*]; done)), H', ⟨by first | omega | exact Nat.le_refl _⟩, ⟨by (with_reducible repeat (first | apply rA | apply rN | apply rD)); exact Kd.R_mono HO174.out (fun _ hk => hk.2)⟩, ⟨by (with_reducible repeat (first | apply rA | apply rN | apply rD)); exact Kd.R_mono HO177.out (fun _ hk => hk.2)⟩, ⟨by (with_reducible repeat (first | apply kB | apply kC | apply kE)); exact BK170.out⟩, ⟨by (with_reducible repeat (first | apply kB | apply kC | apply kE)); exact BK171.out⟩, ⟨by repeat (with_reducible first | exact HB.out | apply bA | apply bN | apply bD | refine bS ?_ GE170.out | refine bS ?_ GE171.out)⟩⟩
 case rest =>
  clear HC5
  try clear p2
  try clear p6
  try clear hcz12_0
  try clear hcz12_1
  try clear hcz12_2
  try clear hfz12_0
  try clear hfz12_1
  try clear hfz12_2
  obtain ⟨kq, x46_4, rfl, HA, HJ4, HO_6, HO_7, BK170, BK171, HB⟩ := hcut
  cases kq with
  | zero => exact absurd HA.out (by simp [spec_stStep.j0])
  | succ kj4 =>
   have H := HA.out
   clear HA
   simp only [spec_stStep.j0] at H
   by_cases c19 : x46_4 = true
   ·subst c19
    have H1 : (some (([] : List Int), ([] : List Int), 0, false)) = some (r1, r2, r3, r4) := by rw [if_pos rfl] at H; exact H
    clear H
    have H := H1
    clear H1
    simp only [Option.some.injEq, Prod.mk.injEq] at H
    obtain ⟨rfl, rfl, rfl, rfl⟩ := H
    have hnb20 := NB171_170.out
    have hnc20 := NB170_171.out
    have hcz21_0 : wc.cell? ⟨gb171, 0, none⟩ = some (.slice none 0 0) := (blk_cell BK171.out 0).trans rfl
    have hcz21_1 : wc.cell? ⟨gb171, 1, none⟩ = some (.slice none 0 0) := (blk_cell BK171.out 1).trans rfl
    have hcz21_2 : wc.cell? ⟨gb171, 2, none⟩ = some (.int .i64 0) := (blk_cell BK171.out 2).trans rfl
    have hfz21_0 := blk_frozen BK171.out 0
    have hfz21_1 := blk_frozen BK171.out 1
    have hfz21_2 := blk_frozen BK171.out 2
    go_wp2
    refine bodyPost_ret (results_ct rfl _ _ gb171 27 #[.slice none 0 0, .slice none 0 0, .int .i64 0] (0, 0) _ rfl (by (with_reducible repeat (first | apply kB | apply kC | apply kE)); refine blk_put (cs := #[.slice none 0 0, .slice none 0 0, .int .i64 0]) ?_ 2 _ rfl; (with_reducible repeat (first | apply kB | apply kC | apply kE)); refine blk_put (cs := #[.slice none 0 0, .slice none 0 0, .int .i64 0]) ?_ 1 _ rfl; (with_reducible repeat (first | apply kB | apply kC | apply kE)); refine blk_put (cs := #[.slice none 0 0, .slice none 0 0, .int .i64 0]) ?_ 0 _ rfl; (with_reducible repeat (first | apply kB | apply kC | apply kE)); exact BK171.out) Try.underlying27 rfl (by kernel_rfl)) rfl ?_
    exact ⟨_, _, by first | rfl | (simp [*, errW_none, errW_some] <;> rfl), by first | exact Kd.R_nil _ _ _ _ _ | exact Kd.N_nil _ _ _ _ _ | exact Kd.V_nil _ _ _ _ _ | exact Kd.Q_nil _ _ _ _ _ | exact Kd.S_nil _ _ _ _ _, by first | exact Kd.R_nil _ _ _ _ _ | exact Kd.N_nil _ _ _ _ _ | exact Kd.V_nil _ _ _ _ _ | exact Kd.Q_nil _ _ _ _ _ | exact Kd.S_nil _ _ _ _ _, by repeat (with_reducible first | exact HB.out | apply bA | apply bN | apply bD | refine bS ?_ GE170.out | refine bS ?_ GE171.out)⟩
   ·replace c19 := Bool.eq_false_iff.mpr c19
    subst c19
    have H1 : (if a1 = 0 then (if t172.length < 17592186044416 then (if t175.length < 17592186044416 then ((spec_stRename.f kj4 (t172 ++ [(-1)]) (t175 ++ [(-1)])).bind fun bt184 => ((spec_stGood.f kj4 bt184.1 bt184.2 a0_2).bind fun t191 => (some (bt184.1, bt184.2, a0_2, t191)))) else (none)) else (none)) else (if a1 = 1 then (if 0 ≤ (wrap64 ((t175.length : Int) - 1)) then (if (wrap64 ((t175.length : Int) - 1)) < (t175.length : Int) then (if t172.length < 17592186044416 then (if (wrap64 ((t175.length : Int) - 1)) ≤ (t175.length : Int) then ((spec_stRename.f kj4 (t172 ++ [rd t175 (wrap64 ((t175.length : Int) - 1))]) (t175.take ((wrap64 ((t175.length : Int) - 1)) : Int).toNat)).bind fun bt199 => ((spec_stGood.f kj4 bt199.1 bt199.2 a0_2).bind fun t206 => (some (bt199.1, bt199.2, a0_2, t206)))) else (none)) else (none)) else (none)) else (none)) else (if a1 = 2 then (if 0 ≤ (wrap64 ((t172.length : Int) - 1)) then (if (wrap64 ((t172.length : Int) - 1)) < (t172.length : Int) then (if t175.length < 17592186044416 then (if (wrap64 ((t172.length : Int) - 1)) ≤ (t172.length : Int) then ((spec_stRename.f kj4 (t172.take ((wrap64 ((t172.length : Int) - 1)) : Int).toNat) (t175 ++ [rd t172 (wrap64 ((t172.length : Int) - 1))])).bind fun bt214 => ((spec_stGood.f kj4 bt214.1 bt214.2 a0_2).bind fun t221 => (some (bt214.1, bt214.2, a0_2, t221)))) else (none)) else (none)) else (none)) else (none)) else (if 0 ≤ (wrap64 ((t172.length : Int) - 1)) then (if (wrap64 ((t172.length : Int) - 1)) < (t172.length : Int) then (if 0 ≤ (wrap64 ((t175.length : Int) - 1)) then (if (wrap64 ((t175.length : Int) - 1)) < (t175.length : Int) then (if (wrap64 ((t172.length : Int) - 1)) ≤ (t172.length : Int) then ((some (t172.take ((wrap64 ((t172.length : Int) - 1)) : Int).toNat : List Int)).bind fun y224 => (if (wrap64 ((t175.length : Int) - 1)) ≤ (t175.length : Int) then ((some (t175.take ((wrap64 ((t175.length : Int) - 1)) : Int).toNat : List Int)).bind fun y227 => (if (rd t172 (wrap64 ((t172.length : Int) - 1))) = (rd t175 (wrap64 ((t175.length : Int) - 1))) then (spec_stStep.j1 kj4 y224 y227 (wrap64 (a0_2 + 1)) (rd t172 (wrap64 ((t172.length : Int) - 1))) (rd t175 (wrap64 ((t175.length : Int) - 1)))) else (spec_stStep.j1 kj4 y224 y227 a0_2 (rd t172 (wrap64 ((t172.length : Int) - 1))) (rd t175 (wrap64 ((t175.length : Int) - 1)))))) else (none))) else (none)) else (none)) else (none)) else (none)) else (none))))) = some (r1, r2, r3, r4) := by rw [if_neg (show ¬ (false = true) by decide)] at H; exact H
    clear H
    have H := H1
    clear H1
    by_cases c22 : a1 = 0
    ·rw [if_pos c22] at H
     have c22b0 : (a1 == 0) = true := beq_iff_eq.mpr c22
     have c22b1 : (a1 != 0) = false := bne_eq_false_iff_eq.mpr c22
     clear c22
     by_cases c23 : t172.length < 17592186044416
     ·rw [if_pos c23] at H
      have LMc23 := am c23
      clear c23
      obtain ⟨y178, hy178⟩ : ∃ y_ : List Int, y_ = (t172 ++ [(-1)]) := ⟨_, rfl⟩
      replace H : (if t175.length < 17592186044416 then ((spec_stRename.f kj4 y178 (t175 ++ [(-1)])).bind fun bt184 => ((spec_stGood.f kj4 bt184.1 bt184.2 a0_2).bind fun t191 => (some (bt184.1, bt184.2, a0_2, t191)))) else (none)) = some (r1, r2, r3, r4) := by first | (rw [hy178]; with_reducible exact H) | (have H2_ := (Option.bind_some _ _).symm.trans H; rw [hy178]; with_reducible exact H2_) | (have H2_ := (Option.bind_some _ _).symm.trans H; with_reducible exact H2_) | with_reducible exact H | (rw [hy178]; exact H) | exact H
      have Ny178 := am hy178
      clear hy178
      by_cases c24 : t175.length < 17592186044416
      ·rw [if_pos c24] at H
       have LMc24 := am c24
       clear c24
       obtain ⟨y181, hy181⟩ : ∃ y_ : List Int, y_ = (t175 ++ [(-1)]) := ⟨_, rfl⟩
       replace H : ((spec_stRename.f kj4 y178 y181).bind fun bt184 => ((spec_stGood.f kj4 bt184.1 bt184.2 a0_2).bind fun t191 => (some (bt184.1, bt184.2, a0_2, t191)))) = some (r1, r2, r3, r4) := by first | (rw [hy181]; with_reducible exact H) | (have H2_ := (Option.bind_some _ _).symm.trans H; rw [hy181]; with_reducible exact H2_) | (have H2_ := (Option.bind_some _ _).symm.trans H; with_reducible exact H2_) | with_reducible exact H | (rw [hy181]; exact H) | exact H
       have Ny181 := am hy181
       clear hy181
       replace H := Option.bind_eq_some_iff.mp H
       obtain ⟨⟨t184, t185⟩, A250, H⟩ := H
       replace H : ((spec_stGood.f kj4 t184 t185 a0_2).bind fun t191 => (some (t184, t185, a0_2, t191))) = some (r1, r2, r3, r4) := H
       have A25 := am A250
       clear A250
       replace H := Option.bind_eq_some_iff.mp H
       obtain ⟨t191, A260, H⟩ := H
       replace H : (some (t184, t185, a0_2, t191)) = some (r1, r2, r3, r4) := H
       have A26 := am A260
       clear A260
       simp only [Option.some.injEq, Prod.mk.injEq] at H
       obtain ⟨rfl, rfl, rfl, rfl⟩ := H
       try go_wp2_with (first | ((with_reducible refine gate_builtin (b := .append) (xs := #[.tmp 102, .tmp 103]) rfl ?_); at_builtin; refine Kd.R_append (Kd.int .i64) (w0 := w) w.heap.size rfl (.tmp 102) (.tmp 103) 22 3 (.int .i64 0) 8 rfl Try.underlying22 info3 rfl (by decide) (by omega) (.slice Ao13 t172.length co13) t172 (-1) [.int .i64 (-1)] (fun k_ => some k_ ≠ (.slice Ao14 t175.length co14 : Value).ownBlock) (fun _ => False) rfl rfl ?aP (fun _ hk => hk.elim) ?aF ?aO ?aB ?aS ?aL ?_; (case aP => exact rfl); (case aB => exact (by repeat (with_reducible first | exact HB.out | apply bA | apply bN | apply bD | refine bS ?_ GE170.out | refine bS ?_ GE171.out))); (case aF => exact (fun k_ hk => Kd.fresh' (Kd.R_lt (by (with_reducible repeat (first | apply rA | apply rN | apply rD)); exact HO_7.out)) k_ hk)); (case aO => exact (by (with_reducible repeat (first | apply rA | apply rN | apply rD)); exact HO_6.out)); (case aS => exact (below_size (by repeat (with_reducible first | exact HB.out | apply bA | apply bN | apply bD | refine bS ?_ GE170.out | refine bS ?_ GE171.out)))); (case aL => have := LMc23.out; omega); intro v179 w27 ho hb hg hat; rw [← Ny178.out] at ho; replace HO_7 := am (Kd.R_after (ok := (fun _ => True)) (by (with_reducible repeat (first | apply rA | apply rN | apply rD)); exact Kd.R_mono HO_7.out (fun _ hk => ⟨trivial, hk⟩)) hg hat); replace BK170 := am (blk_grown (g := gb170) (by (with_reducible repeat (first | apply kB | apply kC | apply kE)); exact BK170.out) hg (Kd.R_ne HO_6.out BK170.out (by decide))); replace BK171 := am (blk_grown (g := gb171) (by (with_reducible repeat (first | apply kB | apply kC | apply kE)); exact BK171.out) hg (Kd.R_ne HO_6.out BK171.out (by decide))); replace HB := am (hb); have HO180 := am (ho); clear HO_6; clear ho hb hg hat) | ((with_reducible refine gate_builtin (b := .append) (xs := #[.tmp 105, .tmp 106]) rfl ?_); at_builtin; refine Kd.R_append (Kd.int .i64) (w0 := w) w.heap.size rfl (.tmp 105) (.tmp 106) 22 3 (.int .i64 0) 8 rfl Try.underlying22 info3 rfl (by decide) (by omega) (.slice Ao14 t175.length co14) t175 (-1) [.int .i64 (-1)] (fun k_ => some k_ ≠ (v179 : Value).ownBlock) (fun _ => False) rfl rfl ?aP (fun _ hk => hk.elim) ?aF ?aO ?aB ?aS ?aL ?_; (case aP => exact rfl); (case aB => exact (by repeat (with_reducible first | exact HB.out | apply bA | apply bN | apply bD | refine bS ?_ GE170.out | refine bS ?_ GE171.out))); (case aF => exact (fun k_ hk => Kd.fresh' (Kd.R_lt (by (with_reducible repeat (first | apply rA | apply rN | apply rD)); exact HO180.out)) k_ hk)); (case aO => exact (by (with_reducible repeat (first | apply rA | apply rN | apply rD)); exact Kd.R_mono HO_7.out (fun _ hk => hk.2))); (case aS => exact (below_size (by repeat (with_reducible first | exact HB.out | apply bA | apply bN | apply bD | refine bS ?_ GE170.out | refine bS ?_ GE171.out)))); (case aL => have := LMc24.out; omega); intro v182 w28 ho hb hg hat; rw [← Ny181.out] at ho; replace BK170 := am (blk_grown (g := gb170) (by (with_reducible repeat (first | apply kB | apply kC | apply kE)); exact BK170.out) hg (Kd.R_ne HO_7.out BK170.out (by decide))); replace BK171 := am (blk_grown (g := gb171) (by (with_reducible repeat (first | apply kB | apply kC | apply kE)); exact BK171.out) hg (Kd.R_ne HO_7.out BK171.out (by decide))); replace HO180 := am (Kd.R_after (ok := (fun _ => True)) (by (with_reducible repeat (first | apply rA | apply rN | apply rD)); exact Kd.R_mono HO180.out (fun _ hk => ⟨trivial, hk⟩)) hg hat); replace HB := am (hb); have HO183 := am (ho); clear HO_7; clear ho hb hg hat; obtain ⟨Ao29, co29, eo29⟩ := Kd.R_slice HO180.out; subst eo29; obtain ⟨Ao30, co30, eo30⟩ := Kd.R_slice HO183.out; subst eo30) | ((with_reducible refine gate_callee (f := 48) rfl ?_); refine goesL_ (some 135) rfl rfl Try.func48 (by kernel_rfl) rfl #[.slice Ao29 y178.length co29, .slice Ao30 y181.length co30] rfl (by (try simp only [mT, mC, mZ]); first | done | rfl) ?_; (with_reducible refine (spec_stRename.calls kj4 _ _ y178 _ _ y181 t184 t185 _ ?side1 ?side2 ?side3 ?side4 A25.out).mono ?_); (case side1 => repeat (first | exact (Kd.R_reads' HO180.out).2.2 | (with_reducible first | apply cA | apply cN | apply cD))); (case side2 => exact (Kd.R_reads' HO180.out).2.1); (case side3 => repeat (first | exact (Kd.R_reads' HO183.out).2.2 | (with_reducible first | apply cA | apply cN | apply cD))); (case side4 => exact (Kd.R_reads' HO183.out).2.1); rintro e w31 ⟨v186, v188, rfl, ho0, ho1, hb⟩; refine ⟨_, rfl, ?_⟩; have HO187 := am (Kd.R_lower (Kd.R_new' (Kd.R_new' ho0 (Kd.R_lt (by (with_reducible repeat (first | apply rA | apply rN | apply rD)); exact HO180.out))) (Kd.R_lt (by (with_reducible repeat (first | apply rA | apply rN | apply rD)); exact HO183.out))) (below_size (by repeat (with_reducible first | exact HB.out | apply bA | apply bN | apply bD | refine bS ?_ GE170.out | refine bS ?_ GE171.out)))); have HO189 := am (Kd.R_lower (Kd.R_new' (Kd.R_new' ho1 (Kd.R_lt (by (with_reducible repeat (first | apply rA | apply rN | apply rD)); exact HO180.out))) (Kd.R_lt (by (with_reducible repeat (first | apply rA | apply rN | apply rD)); exact HO183.out))) (below_size (by repeat (with_reducible first | exact HB.out | apply bA | apply bN | apply bD | refine bS ?_ GE170.out | refine bS ?_ GE171.out)))); replace HO180 := am (Kd.R_mono (Kd.R_told (Kd.R_told (Kd.R_old (by (with_reducible repeat (first | apply rA | apply rN | apply rD)); exact HO180.out) hb) (Kd.R_base ho0)) (Kd.R_base ho1)) (fun _ h_ => h_.1)); replace HO183 := am (Kd.R_mono (Kd.R_told (Kd.R_told (Kd.R_old (by (with_reducible repeat (first | apply rA | apply rN | apply rD)); exact HO183.out) hb) (Kd.R_base ho0)) (Kd.R_base ho1)) (fun _ h_ => h_.1)); replace BK170 := am (blk_below (g := gb170) (by (with_reducible repeat (first | apply kB | apply kC | apply kE)); exact BK170.out) hb); replace BK171 := am (blk_below (g := gb171) (by (with_reducible repeat (first | apply kB | apply kC | apply kE)); exact BK171.out) hb); replace HB := am (below_step (by repeat (with_reducible first | exact HB.out | apply bA | apply bN | apply bD | refine bS ?_ GE170.out | refine bS ?_ GE171.out)) hb); (try clear hb); (try clear hb2); (try clear hk); (try clear hi); (try clear ho0); (try clear ho1); obtain ⟨Ao32, co32, eo32⟩ := Kd.R_slice HO189.out; subst eo32; obtain ⟨Ao33, co33, eo33⟩ := Kd.R_slice HO187.out; subst eo33) | ((with_reducible refine gate_dst (N := 17) rfl ?_); refine box_event ?hg (N := 17) ?hd (cs := #[.slice none 0 0, .slice none 0 0, .int .i64 0]) (t := 27) ?hr ?_; (case hd => rfl); (case hg => rfl); (case hr => first | (go_simp; done) | (go_simp; rfl)); intro gb190 hg w34 hbox hb; replace HO180 := am (Kd.R_below (by (with_reducible repeat (first | apply rA | apply rN | apply rD)); exact HO180.out) hb); replace HO183 := am (Kd.R_below (by (with_reducible repeat (first | apply rA | apply rN | apply rD)); exact HO183.out) hb); replace HO187 := am (Kd.R_below (by (with_reducible repeat (first | apply rA | apply rN | apply rD)); exact HO187.out) hb); replace HO189 := am (Kd.R_below (by (with_reducible repeat (first | apply rA | apply rN | apply rD)); exact HO189.out) hb); have BK190 := am (hbox); have GW190 := am ((by rw [hg]; exact (below_size (by repeat (with_reducible first | exact HB.out | apply bA | apply bN | apply bD | refine bS ?_ GE170.out | refine bS ?_ GE171.out))) : w.heap.size ≤ gb190)); have GE190 := am ((by rw [hg]; exact (below_size (by repeat (with_reducible first | exact HB.out | apply bA | apply bN | apply bD | refine bS ?_ GE170.out | refine bS ?_ GE171.out))) : w.heap.size ≤ gb190)); replace HB := am (below_step (by repeat (with_reducible first | exact HB.out | apply bA | apply bN | apply bD | refine bS ?_ GE170.out | refine bS ?_ GE171.out)) hb); have NB170_190 := am ((by rw [hg]; exact Nat.ne_of_lt (blk_lt (g := gb170) (by (with_reducible repeat (first | apply kB | apply kC | apply kE)); exact BK170.out)) : gb170 ≠ gb190)); have NB190_170 := am ((by rw [hg]; exact Nat.ne_of_gt (blk_lt (g := gb170) (by (with_reducible repeat (first | apply kB | apply kC | apply kE)); exact BK170.out)) : gb190 ≠ gb170)); replace BK170 := am (blk_below (g := gb170) (by (with_reducible repeat (first | apply kB | apply kC | apply kE)); exact BK170.out) hb); have NB171_190 := am ((by rw [hg]; exact Nat.ne_of_lt (blk_lt (g := gb171) (by (with_reducible repeat (first | apply kB | apply kC | apply kE)); exact BK171.out)) : gb171 ≠ gb190)); have NB190_171 := am ((by rw [hg]; exact Nat.ne_of_gt (blk_lt (g := gb171) (by (with_reducible repeat (first | apply kB | apply kC | apply kE)); exact BK171.out)) : gb190 ≠ gb171)); replace BK171 := am (blk_below (g := gb171) (by (with_reducible repeat (first | apply kB | apply kC | apply kE)); exact BK171.out) hb); clear hb hbox hg; have hnb35 := NB190_170.out; have hnc35 := NB170_190.out; have hnb36 := NB190_171.out; have hnc36 := NB171_190.out; have hcz37_0 : w34.cell? ⟨gb190, 0, none⟩ = some (.slice none 0 0) := (blk_cell BK190.out 0).trans rfl; have hcz37_1 : w34.cell? ⟨gb190, 1, none⟩ = some (.slice none 0 0) := (blk_cell BK190.out 1).trans rfl; have hcz37_2 : w34.cell? ⟨gb190, 2, none⟩ = some (.int .i64 0) := (blk_cell BK190.out 2).trans rfl; have hfz37_0 := blk_frozen BK190.out 0; have hfz37_1 := blk_frozen BK190.out 1; have hfz37_2 := blk_frozen BK190.out 2))
       have n0_ : Aside0 (Kd.R (Kd.int .i64) 3 (((w34.setCell ⟨gb190, 0, none⟩ (.slice Ao33 t184.length co33)).setCell ⟨gb190, 1, none⟩ (.slice Ao32 t185.length co32)).setCell ⟨gb190, 2, none⟩ (.int .i64 a0_2)) w.heap.size (fun k_ => some k_ ≠ (.slice Ao30 y181.length co30 : Value).ownBlock ∧ some k_ ≠ (.slice Ao33 t184.length co33 : Value).ownBlock ∧ some k_ ≠ (.slice Ao32 t185.length co32 : Value).ownBlock) (.slice Ao29 y178.length co29) y178) := ⟨by (with_reducible repeat (first | apply rA | apply rN | apply rD)); exact Kd.R_mono (Kd.R_far (p := ⟨gb190, 2, none⟩) (Kd.R_far (p := ⟨gb190, 1, none⟩) (Kd.R_far (p := ⟨gb190, 0, none⟩) (Kd.R_types HO180.out BK190.out (by decide)) (fun _ hk => hk.2) (.slice Ao33 t184.length co33)) (fun _ hk => hk.2) (.slice Ao32 t185.length co32)) (fun _ hk => hk.2) (.int .i64 a0_2)) (fun _ hk => ⟨hk.1.1.1.2, ⟨hk.1.1.2, hk.1.2⟩⟩)⟩
       have n1_ : Aside0 (Kd.R (Kd.int .i64) 3 (((w34.setCell ⟨gb190, 0, none⟩ (.slice Ao33 t184.length co33)).setCell ⟨gb190, 1, none⟩ (.slice Ao32 t185.length co32)).setCell ⟨gb190, 2, none⟩ (.int .i64 a0_2)) w.heap.size (fun k_ => some k_ ≠ (.slice Ao29 y178.length co29 : Value).ownBlock ∧ some k_ ≠ (.slice Ao33 t184.length co33 : Value).ownBlock ∧ some k_ ≠ (.slice Ao32 t185.length co32 : Value).ownBlock) (.slice Ao30 y181.length co30) y181) := ⟨by (with_reducible repeat (first | apply rA | apply rN | apply rD)); exact Kd.R_mono (Kd.R_far (p := ⟨gb190, 2, none⟩) (Kd.R_far (p := ⟨gb190, 1, none⟩) (Kd.R_far (p := ⟨gb190, 0, none⟩) (Kd.R_types HO183.out BK190.out (by decide)) (fun _ hk => hk.2) (.slice Ao33 t184.length co33)) (fun _ hk => hk.2) (.slice Ao32 t185.length co32)) (fun _ hk => hk.2) (.int .i64 a0_2)) (fun _ hk => ⟨hk.1.1.1, ⟨hk.1.1.2, hk.1.2⟩⟩)⟩
       have n2_ : Aside0 (Kd.R (Kd.int .i64) 3 (((w34.setCell ⟨gb190, 0, none⟩ (.slice Ao33 t184.length co33)).setCell ⟨gb190, 1, none⟩ (.slice Ao32 t185.length co32)).setCell ⟨gb190, 2, none⟩ (.int .i64 a0_2)) w.heap.size (fun k_ => some k_ ≠ (.slice Ao29 y178.length co29 : Value).ownBlock ∧ some k_ ≠ (.slice Ao30 y181.length co30 : Value).ownBlock ∧ some k_ ≠ (.slice Ao32 t185.length co32 : Value).ownBlock) (.slice Ao33 t184.length co33) t184) := ⟨by (with_reducible repeat (first | apply rA | apply rN | apply rD)); exact Kd.R_mono (Kd.R_far (p := ⟨gb190, 2, none⟩) (Kd.R_far (p := ⟨gb190, 1, none⟩) (Kd.R_far (p := ⟨gb190, 0, none⟩) (Kd.R_types HO187.out BK190.out (by decide)) (fun _ hk => hk.2) (.slice Ao33 t184.length co33)) (fun _ hk => hk.2) (.slice Ao32 t185.length co32)) (fun _ hk => hk.2) (.int .i64 a0_2)) (fun _ hk => ⟨hk.1.1.2, ⟨hk.1.2, hk.1.1.1⟩⟩)⟩
       have n3_ : Aside0 (Kd.R (Kd.int .i64) 3 (((w34.setCell ⟨gb190, 0, none⟩ (.slice Ao33 t184.length co33)).setCell ⟨gb190, 1, none⟩ (.slice Ao32 t185.length co32)).setCell ⟨gb190, 2, none⟩ (.int .i64 a0_2)) w.heap.size (fun k_ => some k_ ≠ (.slice Ao29 y178.length co29 : Value).ownBlock ∧ some k_ ≠ (.slice Ao30 y181.length co30 : Value).ownBlock ∧ some k_ ≠ (.slice Ao33 t184.length co33 : Value).ownBlock) (.slice Ao32 t185.length co32) t185) := ⟨by (with_reducible repeat (first | apply rA | apply rN | apply rD)); exact Kd.R_mono (Kd.R_far (p := ⟨gb190, 2, none⟩) (Kd.R_far (p := ⟨gb190, 1, none⟩) (Kd.R_far (p := ⟨gb190, 0, none⟩) (Kd.R_types HO189.out BK190.out (by decide)) (fun _ hk => hk.2) (.slice Ao33 t184.length co33)) (fun _ hk => hk.2) (.slice Ao32 t185.length co32)) (fun _ hk => hk.2) (.int .i64 a0_2)) (fun _ hk => ⟨hk.1.1.2, ⟨hk.1.2, hk.1.1.1⟩⟩)⟩
       have n4_ : Aside0 ((((w34.setCell ⟨gb190, 0, none⟩ (.slice Ao33 t184.length co33)).setCell ⟨gb190, 1, none⟩ (.slice Ao32 t185.length co32)).setCell ⟨gb190, 2, none⟩ (.int .i64 a0_2)).heap[gb170]? = some (.cells #[.slice A0_0 l0_0.length c0_0, .slice A0_1 l0_1.length c0_1, .int .i64 a0_2] 27 (0, 0))) := ⟨by (with_reducible repeat (first | apply kB | apply kC | apply kE)); refine blk_far ?_ NB170_190.out _; (with_reducible repeat (first | apply kB | apply kC | apply kE)); refine blk_far ?_ NB170_190.out _; (with_reducible repeat (first | apply kB | apply kC | apply kE)); refine blk_far ?_ NB170_190.out _; (with_reducible repeat (first | apply kB | apply kC | apply kE)); exact BK170.out⟩
       have n5_ : Aside0 ((((w34.setCell ⟨gb190, 0, none⟩ (.slice Ao33 t184.length co33)).setCell ⟨gb190, 1, none⟩ (.slice Ao32 t185.length co32)).setCell ⟨gb190, 2, none⟩ (.int .i64 a0_2)).heap[gb171]? = some (.cells #[.slice none 0 0, .slice none 0 0, .int .i64 0] 27 (0, 0))) := ⟨by (with_reducible repeat (first | apply kB | apply kC | apply kE)); refine blk_far ?_ NB171_190.out _; (with_reducible repeat (first | apply kB | apply kC | apply kE)); refine blk_far ?_ NB171_190.out _; (with_reducible repeat (first | apply kB | apply kC | apply kE)); refine blk_far ?_ NB171_190.out _; (with_reducible repeat (first | apply kB | apply kC | apply kE)); exact BK171.out⟩
       have n6_ : Aside0 ((((w34.setCell ⟨gb190, 0, none⟩ (.slice Ao33 t184.length co33)).setCell ⟨gb190, 1, none⟩ (.slice Ao32 t185.length co32)).setCell ⟨gb190, 2, none⟩ (.int .i64 a0_2)).heap[gb190]? = some (.cells #[.slice Ao33 t184.length co33, .slice Ao32 t185.length co32, .int .i64 a0_2] 27 (0, 0))) := ⟨by (with_reducible repeat (first | apply kB | apply kC | apply kE)); refine blk_put (cs := #[.slice Ao33 t184.length co33, .slice Ao32 t185.length co32, .int .i64 0]) ?_ 2 _ rfl; (with_reducible repeat (first | apply kB | apply kC | apply kE)); refine blk_put (cs := #[.slice Ao33 t184.length co33, .slice none 0 0, .int .i64 0]) ?_ 1 _ rfl; (with_reducible repeat (first | apply kB | apply kC | apply kE)); refine blk_put (cs := #[.slice none 0 0, .slice none 0 0, .int .i64 0]) ?_ 0 _ rfl; (with_reducible repeat (first | apply kB | apply kC | apply kE)); exact BK190.out⟩
       have n7_ : Aside0 (Below w.heap.size w (((w34.setCell ⟨gb190, 0, none⟩ (.slice Ao33 t184.length co33)).setCell ⟨gb190, 1, none⟩ (.slice Ao32 t185.length co32)).setCell ⟨gb190, 2, none⟩ (.int .i64 a0_2))) := ⟨by repeat (with_reducible first | exact HB.out | apply bA | apply bN | apply bD | refine bS ?_ GE170.out | refine bS ?_ GE171.out | refine bS ?_ GE190.out)⟩
       (try clear HO180)
       (try clear HO183)
       (try clear HO187)
       (try clear HO189)
       (try clear BK170)
       (try clear BK171)
       (try clear BK190)
       (try clear HB)
       generalize (((w34.setCell ⟨gb190, 0, none⟩ (.slice Ao33 t184.length co33)).setCell ⟨gb190, 1, none⟩ (.slice Ao32 t185.length co32)).setCell ⟨gb190, 2, none⟩ (.int .i64 a0_2)) = w38 at n0_ n1_ n2_ n3_ n4_ n5_ n6_ n7_ ⊢
       have HO180 := n0_
       have HO183 := n1_
       have HO187 := n2_
       have HO189 := n3_
       have BK170 := n4_
       have BK171 := n5_
       have BK190 := n6_
       have HB := n7_
       clear n0_ n1_ n2_ n3_ n4_ n5_ n6_ n7_
       replace HO180 := am (Kd.R_drew HO180.out)
       replace HO183 := am (Kd.R_drew HO183.out)
       replace HO187 := am (Kd.R_drew HO187.out)
       replace HO189 := am (Kd.R_drew HO189.out)
       replace BK170 := am (kC BK170.out)
       replace BK171 := am (kC BK171.out)
       replace BK190 := am (kC BK190.out)
       replace HB := am (below_drew1 HB.out)
       refine start_ (n := 5) (S := fun w' => w'.cell? ⟨gb190, 0, none⟩ = some (.slice Ao33 t184.length co33) ∧ w'.cell? ⟨gb190, 1, none⟩ = some (.slice Ao32 t185.length co32) ∧ w'.cell? ⟨gb190, 2, none⟩ = some (.int .i64 a0_2)) (ds := []) #[false, false, false, false, false] (by kernel_rfl) rfl rfl ⟨(blk_cell BK190.out 0).trans rfl, (blk_cell BK190.out 1).trans rfl, (blk_cell BK190.out 2).trans rfl⟩ (fun hHeld => ?_)
       generalize w38.drew = w39 at HO180 HO183 HO187 HO189 BK170 BK171 BK190 HB hHeld ⊢
       refine take_ (i := 0) (N := some 142) (v := ?_) (a' := ?_) #[true, false, false, false, false] rfl rfl (by kernel_rfl) (fun _ _ _ h => h) (Or.inl ⟨by rfl, ?_⟩) hHeld ?_ ?_
       rotate_left
       ·rintro w' ⟨s0, s1, s2⟩
        go_simp
        with_reducible rfl
       rotate_left
       ·simp only [Act.put, sI, s0_, s1_, i64_w, i32_w]
        rfl
       refine take_ (i := 1) (N := some 143) (v := ?_) (a' := ?_) #[true, true, false, false, false] rfl rfl (by kernel_rfl) (fun _ _ _ h => h) (Or.inl ⟨by rfl, ?_⟩) hHeld ?_ ?_
       rotate_left
       ·rintro w' ⟨s0, s1, s2⟩
        go_simp
        with_reducible rfl
       rotate_left
       ·simp only [Act.put, sI, s0_, s1_, i64_w, i32_w]
        rfl
       refine one_ (i := 2) (N := some 144) #[true, true, true, false, false] rfl rfl (by kernel_rfl) (by decide) (fun K hK => ?_)
       refine goes_ Try.func37 (by kernel_rfl) rfl #[.agg #[.slice Ao33 t184.length co33, .slice Ao32 t185.length co32, .int .i64 a0_2]] (by rfl) rfl rfl (by (try simp only [mT, mC, mZ]); first | done | rfl) ?_
       with_reducible refine (spec_stGood.calls kj4 _ _ t184 _ _ t185 a0_2 t191 _ ?side1 ?side2 ?side3 ?side4 A26.out).mono ?_
       (case side1 => repeat (first | exact (Kd.R_reads' HO187.out).2.2 | (with_reducible first | apply cA | apply cN | apply cD)))
       (case side2 => exact (Kd.R_reads' HO187.out).2.1)
       (case side3 => repeat (first | exact (Kd.R_reads' HO189.out).2.2 | (with_reducible first | apply cA | apply cN | apply cD)))
       (case side4 => exact (Kd.R_reads' HO189.out).2.1)
       rintro e w40 ⟨rfl, hb⟩
       refine ⟨_, rfl, ?_⟩
       replace HO180 := am (Kd.R_below (by (with_reducible repeat (first | apply rA | apply rN | apply rD)); exact HO180.out) hb)
       replace HO183 := am (Kd.R_below (by (with_reducible repeat (first | apply rA | apply rN | apply rD)); exact HO183.out) hb)
       replace HO187 := am (Kd.R_below (by (with_reducible repeat (first | apply rA | apply rN | apply rD)); exact HO187.out) hb)
       replace HO189 := am (Kd.R_below (by (with_reducible repeat (first | apply rA | apply rN | apply rD)); exact HO189.out) hb)
       replace BK170 := am (blk_below (g := gb170) (by (with_reducible repeat (first | apply kB | apply kC | apply kE)); exact BK170.out) hb)
       replace BK171 := am (blk_below (g := gb171) (by (with_reducible repeat (first | apply kB | apply kC | apply kE)); exact BK171.out) hb)
       replace BK190 := am (blk_below (g := gb190) (by (with_reducible repeat (first | apply kB | apply kC | apply kE)); exact BK190.out) hb)
       replace HB := am (below_step (by repeat (with_reducible first | exact HB.out | apply bA | apply bN | apply bD | refine bS ?_ GE170.out | refine bS ?_ GE171.out | refine bS ?_ GE190.out)) hb)
       (try clear hb)
       (try clear hb2)
       (try clear hk)
       (try clear hi)
       refine hK.out _ _ ⟨(blk_cell BK190.out 0).trans rfl, (blk_cell BK190.out 1).trans rfl, (blk_cell BK190.out 2).trans rfl⟩ (fun hHeld => ?_)
       clear hK K
       refine norm_ (a' := ?_) ?_ ?_
       rotate_left
       ·show Act.put _ (some 144) _ = _
        simp only [Act.put, sI, s0_, s1_, i64_w, i32_w]
        rfl
       refine one_ (i := 3) (N := none) #[true, true, true, true, false] rfl rfl (by kernel_rfl) (by decide) (fun K hK => ?_)
       have hs41 : w40.cell? ⟨gb171, 0, none⟩ = some (.slice none 0 0) := (blk_cell BK171.out 0).trans rfl
       have hfs41 := blk_frozen BK171.out 0
       have hns41_0 := NB170_171.out
       have hns41_2 := NB190_171.out
       have hms41_0 := NB171_170.out
       have hms41_2 := NB171_190.out
       have hs42 : w40.cell? ⟨gb171, 1, none⟩ = some (.slice none 0 0) := (blk_cell BK171.out 1).trans rfl
       have hfs42 := blk_frozen BK171.out 1
       have hns42_0 := NB170_171.out
       have hns42_2 := NB190_171.out
       have hms42_0 := NB171_170.out
       have hms42_2 := NB171_190.out
       have hs43 : w40.cell? ⟨gb171, 2, none⟩ = some (.int .i64 0) := (blk_cell BK171.out 2).trans rfl
       have hfs43 := blk_frozen BK171.out 2
       have hns43_0 := NB170_171.out
       have hns43_2 := NB190_171.out
       have hms43_0 := NB171_170.out
       have hms43_2 := NB171_190.out
       refine skip_ (w1 := ?_) (by rfl) rfl ?_ ?_
       rotate_left
       ·go_simp
        rfl
       refine hK.out _ _ ⟨((cell_far (p := ⟨gb171, _, none⟩) NB190_171.out _).trans (((cell_far (p := ⟨gb171, _, none⟩) NB190_171.out _).trans (((cell_far (p := ⟨gb171, _, none⟩) NB190_171.out _).trans (hHeld.1)))))), ((cell_far (p := ⟨gb171, _, none⟩) NB190_171.out _).trans (((cell_far (p := ⟨gb171, _, none⟩) NB190_171.out _).trans (((cell_far (p := ⟨gb171, _, none⟩) NB190_171.out _).trans (hHeld.2.1)))))), ((cell_far (p := ⟨gb171, _, none⟩) NB190_171.out _).trans (((cell_far (p := ⟨gb171, _, none⟩) NB190_171.out _).trans (((cell_far (p := ⟨gb171, _, none⟩) NB190_171.out _).trans (hHeld.2.2))))))⟩ (fun hHeld => ?_)
       clear hK K
       refine pure_ (i := 4) (N := some 5) (v := ?_) (a' := ?_) #[true, true, true, true, true] rfl rfl (by kernel_rfl) (fun _ _ _ h => h) (Or.inl ⟨by rfl, ?_⟩) ?_ ?_
       rotate_left
       ·intro w'
        go_simp
        with_reducible rfl
       rotate_left
       ·simp only [Act.put, sI, s0_, s1_, i64_w, i32_w]
        rfl
       refine done_ (by kernel_rfl) ?_
       try go_wp2
       refine bodyPost_ret (results_ct rfl _ _ gb171 27 #[.slice Ao33 t184.length co33, .slice Ao32 t185.length co32, .int .i64 a0_2] (0, 0) _ rfl (by (with_reducible repeat (first | apply kB | apply kC | apply kE)); refine blk_put (cs := #[.slice Ao33 t184.length co33, .slice Ao32 t185.length co32, .int .i64 0]) ?_ 2 _ rfl; (with_reducible repeat (first | apply kB | apply kC | apply kE)); refine blk_put (cs := #[.slice Ao33 t184.length co33, .slice none 0 0, .int .i64 0]) ?_ 1 _ rfl; (with_reducible repeat (first | apply kB | apply kC | apply kE)); refine blk_put (cs := #[.slice none 0 0, .slice none 0 0, .int .i64 0]) ?_ 0 _ rfl; (with_reducible repeat (first | apply kB | apply kC | apply kE)); exact BK171.out) Try.underlying27 rfl (by kernel_rfl)) rfl ?_
       exact ⟨_, _, by first | rfl | (simp [*, errW_none, errW_some] <;> rfl), by (with_reducible repeat (first | apply rA | apply rN | apply rD)); exact Kd.R_mono (Kd.R_far (p := ⟨gb171, 2, none⟩) (Kd.R_far (p := ⟨gb171, 1, none⟩) (Kd.R_far (p := ⟨gb171, 0, none⟩) (Kd.R_types HO187.out BK171.out (by decide)) (fun _ hk => hk.2) (.slice Ao33 t184.length co33)) (fun _ hk => hk.2) (.slice Ao32 t185.length co32)) (fun _ hk => hk.2) (.int .i64 a0_2)) (fun _ hk => hk.1.2.2), by (with_reducible repeat (first | apply rA | apply rN | apply rD)); exact Kd.R_mono (Kd.R_far (p := ⟨gb171, 2, none⟩) (Kd.R_far (p := ⟨gb171, 1, none⟩) (Kd.R_far (p := ⟨gb171, 0, none⟩) (Kd.R_types HO189.out BK171.out (by decide)) (fun _ hk => hk.2) (.slice Ao33 t184.length co33)) (fun _ hk => hk.2) (.slice Ao32 t185.length co32)) (fun _ hk => hk.2) (.int .i64 a0_2)) (fun _ hk => hk.1.2.2), by repeat (with_reducible first | exact HB.out | apply bA | apply bN | apply bD | refine bS ?_ GE170.out | refine bS ?_ GE171.out | refine bS ?_ GE190.out)⟩
      ·rw [if_neg c24] at H
       exact absurd H (by simp)
     ·rw [if_neg c23] at H
      exact absurd H (by simp)
    ·rw [if_neg c22] at H
     have c22b0 : (a1 == 0) = false := beq_eq_false_iff_ne.mpr c22
     have c22b1 : (a1 != 0) = true := bne_iff_ne.mpr c22
     by_cases c44 : a1 = 1
     ·rw [if_pos c44] at H
      have c44b0 : (a1 == 1) = true := beq_iff_eq.mpr c44
      have c44b1 : (a1 != 1) = false := bne_eq_false_iff_eq.mpr c44
      clear c44
      obtain ⟨ji45, hji45⟩ : ∃ j_ : Int, (wrap64 ((t175.length : Int) - 1)) = j_ := ⟨_, rfl⟩
      replace H : (if 0 ≤ (ji45) then (if (ji45) < (t175.length : Int) then (if t172.length < 17592186044416 then (if (ji45) ≤ (t175.length : Int) then ((spec_stRename.f kj4 (t172 ++ [rd t175 (ji45)]) (t175.take ((ji45) : Int).toNat)).bind fun bt199 => ((spec_stGood.f kj4 bt199.1 bt199.2 a0_2).bind fun t206 => (some (bt199.1, bt199.2, a0_2, t206)))) else (none)) else (none)) else (none)) else (none)) = some (r1, r2, r3, r4) := by first | (rw [hji45] at H; exact H) | (simp only [hji45] at H ⊢; exact H)
      have hji45w : (IntKind.i64.wrap ((t175.length : Int) - 1)) = ji45 := (i64_w _).trans hji45
      by_cases c46 : 0 ≤ (ji45)
      ·rw [if_pos c46] at H
       have c46b0 : decide (0 ≤ (ji45)) = true := decide_eq_true c46
       clear c46
       by_cases c47 : (ji45) < (t175.length : Int)
       ·rw [if_pos c47] at H
        have c47b0 : decide ((ji45) < (t175.length : Int)) = true := decide_eq_true c47
        clear c47
        by_cases c48 : t172.length < 17592186044416
        ·rw [if_pos c48] at H
         have LMc48 := am c48
         clear c48
         obtain ⟨y193, hy193⟩ : ∃ y_ : List Int, y_ = (t172 ++ [rd t175 (ji45)]) := ⟨_, rfl⟩
         replace H : (if (ji45) ≤ (t175.length : Int) then ((spec_stRename.f kj4 y193 (t175.take ((ji45) : Int).toNat)).bind fun bt199 => ((spec_stGood.f kj4 bt199.1 bt199.2 a0_2).bind fun t206 => (some (bt199.1, bt199.2, a0_2, t206)))) else (none)) = some (r1, r2, r3, r4) := by first | (rw [hy193]; with_reducible exact H) | (have H2_ := (Option.bind_some _ _).symm.trans H; rw [hy193]; with_reducible exact H2_) | (have H2_ := (Option.bind_some _ _).symm.trans H; with_reducible exact H2_) | with_reducible exact H | (rw [hy193]; exact H) | exact H
         have Ny193 := am hy193
         clear hy193
         by_cases c49 : (ji45) ≤ (t175.length : Int)
         ·rw [if_pos c49] at H
          have c49b0 := eq_true c49
          have c49b1 : decide ((ji45) ≤ (t175.length : Int)) = true := decide_eq_true c49
          clear c49
          obtain ⟨y196, hy196⟩ : ∃ y_ : List Int, y_ = (t175.take ((ji45) : Int).toNat) := ⟨_, rfl⟩
          replace H : ((spec_stRename.f kj4 y193 y196).bind fun bt199 => ((spec_stGood.f kj4 bt199.1 bt199.2 a0_2).bind fun t206 => (some (bt199.1, bt199.2, a0_2, t206)))) = some (r1, r2, r3, r4) := by first | (rw [hy196]; with_reducible exact H) | (have H2_ := (Option.bind_some _ _).symm.trans H; rw [hy196]; with_reducible exact H2_) | (have H2_ := (Option.bind_some _ _).symm.trans H; with_reducible exact H2_) | with_reducible exact H | (rw [hy196]; exact H) | exact H
          have Ny196 := am hy196
          clear hy196
          replace H := Option.bind_eq_some_iff.mp H
          obtain ⟨⟨t199, t200⟩, A500, H⟩ := H
          replace H : ((spec_stGood.f kj4 t199 t200 a0_2).bind fun t206 => (some (t199, t200, a0_2, t206))) = some (r1, r2, r3, r4) := H
          have A50 := am A500
          clear A500
          replace H := Option.bind_eq_some_iff.mp H
          obtain ⟨t206, A510, H⟩ := H
          replace H : (some (t199, t200, a0_2, t206)) = some (r1, r2, r3, r4) := H
          have A51 := am A510
          clear A510
          simp only [Option.some.injEq, Prod.mk.injEq] at H
          obtain ⟨rfl, rfl, rfl, rfl⟩ := H
          have p192 : 0 ≤ ((ji45) : Int) := ofd (by assumption)
          have q192 : (ji45) < (t175.length : Int) := ofd (by assumption)
          obtain ⟨ad192, e192, hx192_0⟩ := Kd.at_int (Kd.R_reads' HO_7.out).2.2 (ji45) p192 q192
          cases e192
          replace p192 := eq_true p192
          replace q192 := eq_true q192
          try go_wp2_with (first | ((with_reducible refine gate_builtin (b := .append) (xs := #[.tmp 110, .tmp 115]) rfl ?_); at_builtin; refine Kd.R_append (Kd.int .i64) (w0 := w) w.heap.size rfl (.tmp 110) (.tmp 115) 22 3 (.int .i64 0) 8 rfl Try.underlying22 info3 rfl (by decide) (by omega) (.slice Ao13 t172.length co13) t172 (rd t175 (ji45)) [.int .i64 (rd t175 (ji45))] (fun k_ => some k_ ≠ (.slice (some ad192) t175.length co14 : Value).ownBlock) (fun _ => False) rfl rfl ?aP (fun _ hk => hk.elim) ?aF ?aO ?aB ?aS ?aL ?_; (case aP => exact rfl); (case aB => exact (by repeat (with_reducible first | exact HB.out | apply bA | apply bN | apply bD | refine bS ?_ GE170.out | refine bS ?_ GE171.out))); (case aF => exact (fun k_ hk => Kd.fresh' (Kd.R_lt (by (with_reducible repeat (first | apply rA | apply rN | apply rD)); exact HO_7.out)) k_ hk)); (case aO => exact (by (with_reducible repeat (first | apply rA | apply rN | apply rD)); exact HO_6.out)); (case aS => exact (below_size (by repeat (with_reducible first | exact HB.out | apply bA | apply bN | apply bD | refine bS ?_ GE170.out | refine bS ?_ GE171.out)))); (case aL => have := LMc48.out; omega); intro v194 w52 ho hb hg hat; rw [← Ny193.out] at ho; replace HO_7 := am (Kd.R_after (ok := (fun _ => True)) (by (with_reducible repeat (first | apply rA | apply rN | apply rD)); exact Kd.R_mono HO_7.out (fun _ hk => ⟨trivial, hk⟩)) hg hat); replace BK170 := am (blk_grown (g := gb170) (by (with_reducible repeat (first | apply kB | apply kC | apply kE)); exact BK170.out) hg (Kd.R_ne HO_6.out BK170.out (by decide))); replace BK171 := am (blk_grown (g := gb171) (by (with_reducible repeat (first | apply kB | apply kC | apply kE)); exact BK171.out) hg (Kd.R_ne HO_6.out BK171.out (by decide))); replace HB := am (hb); have HO195 := am (ho); clear HO_6; clear ho hb hg hat; have q53 : ((ji45) : Int) ≤ ((t175.length : Int) : Int) := ofd (by assumption); obtain ⟨i053, hi053, _, hsz53, _⟩ := info_parts info3; have hcut53 := cut_to (P := Try.prog) 22 3 .i64 Try.underlying22 hi053 (some ad192) t175.length co14 (ji45) (ofd (by assumption)) q53 (Kd.R_reads' HO_7.out).2.1; have hr53 := Kd.R_take (m := ((ji45) : Int).toNat) HO_7.out (by omega); have hy53 : y196.length = ((ji45) : Int).toNat := (by rw [Ny196.out, List.length_take]; omega); rw [← Ny196.out] at hr53; rw [← hy53] at hr53 hcut53; clear hy53 hi053 hsz53 HO_7; have HO198 := am hr53; clear hr53; replace q53 := eq_true q53; obtain ⟨Ao54, co54, eo54⟩ := Kd.R_slice HO195.out; subst eo54) | ((with_reducible refine gate_callee (f := 48) rfl ?_); refine goesL_ (some 135) rfl rfl Try.func48 (by kernel_rfl) rfl #[.slice Ao54 y193.length co54, .slice (some ad192) y196.length co14] rfl (by (try simp only [mT, mC, mZ]); first | done | rfl) ?_; (with_reducible refine (spec_stRename.calls kj4 _ _ y193 _ _ y196 t199 t200 _ ?side1 ?side2 ?side3 ?side4 A50.out).mono ?_); (case side1 => repeat (first | exact (Kd.R_reads' HO195.out).2.2 | (with_reducible first | apply cA | apply cN | apply cD))); (case side2 => exact (Kd.R_reads' HO195.out).2.1); (case side3 => repeat (first | exact (Kd.R_reads' HO198.out).2.2 | (with_reducible first | apply cA | apply cN | apply cD))); (case side4 => exact (Kd.R_reads' HO198.out).2.1); rintro e w55 ⟨v201, v203, rfl, ho0, ho1, hb⟩; refine ⟨_, rfl, ?_⟩; have HO202 := am (Kd.R_lower (Kd.R_new' (Kd.R_new' ho0 (Kd.R_lt (by (with_reducible repeat (first | apply rA | apply rN | apply rD)); exact HO198.out))) (Kd.R_lt (by (with_reducible repeat (first | apply rA | apply rN | apply rD)); exact HO195.out))) (below_size (by repeat (with_reducible first | exact HB.out | apply bA | apply bN | apply bD | refine bS ?_ GE170.out | refine bS ?_ GE171.out)))); have HO204 := am (Kd.R_lower (Kd.R_new' (Kd.R_new' ho1 (Kd.R_lt (by (with_reducible repeat (first | apply rA | apply rN | apply rD)); exact HO198.out))) (Kd.R_lt (by (with_reducible repeat (first | apply rA | apply rN | apply rD)); exact HO195.out))) (below_size (by repeat (with_reducible first | exact HB.out | apply bA | apply bN | apply bD | refine bS ?_ GE170.out | refine bS ?_ GE171.out)))); replace HO198 := am (Kd.R_mono (Kd.R_told (Kd.R_told (Kd.R_old (by (with_reducible repeat (first | apply rA | apply rN | apply rD)); exact HO198.out) hb) (Kd.R_base ho0)) (Kd.R_base ho1)) (fun _ h_ => h_.1)); replace HO195 := am (Kd.R_mono (Kd.R_told (Kd.R_told (Kd.R_old (by (with_reducible repeat (first | apply rA | apply rN | apply rD)); exact HO195.out) hb) (Kd.R_base ho0)) (Kd.R_base ho1)) (fun _ h_ => h_.1)); replace BK170 := am (blk_below (g := gb170) (by (with_reducible repeat (first | apply kB | apply kC | apply kE)); exact BK170.out) hb); replace BK171 := am (blk_below (g := gb171) (by (with_reducible repeat (first | apply kB | apply kC | apply kE)); exact BK171.out) hb); replace HB := am (below_step (by repeat (with_reducible first | exact HB.out | apply bA | apply bN | apply bD | refine bS ?_ GE170.out | refine bS ?_ GE171.out)) hb); (try clear hb); (try clear hb2); (try clear hk); (try clear hi); (try clear ho0); (try clear ho1); obtain ⟨Ao56, co56, eo56⟩ := Kd.R_slice HO204.out; subst eo56; obtain ⟨Ao57, co57, eo57⟩ := Kd.R_slice HO202.out; subst eo57) | ((with_reducible refine gate_dst (N := 17) rfl ?_); refine box_event ?hg (N := 17) ?hd (cs := #[.slice none 0 0, .slice none 0 0, .int .i64 0]) (t := 27) ?hr ?_; (case hd => rfl); (case hg => rfl); (case hr => first | (go_simp; done) | (go_simp; rfl)); intro gb205 hg w58 hbox hb; replace HO198 := am (Kd.R_below (by (with_reducible repeat (first | apply rA | apply rN | apply rD)); exact HO198.out) hb); replace HO195 := am (Kd.R_below (by (with_reducible repeat (first | apply rA | apply rN | apply rD)); exact HO195.out) hb); replace HO202 := am (Kd.R_below (by (with_reducible repeat (first | apply rA | apply rN | apply rD)); exact HO202.out) hb); replace HO204 := am (Kd.R_below (by (with_reducible repeat (first | apply rA | apply rN | apply rD)); exact HO204.out) hb); have BK205 := am (hbox); have GW205 := am ((by rw [hg]; exact (below_size (by repeat (with_reducible first | exact HB.out | apply bA | apply bN | apply bD | refine bS ?_ GE170.out | refine bS ?_ GE171.out))) : w.heap.size ≤ gb205)); have GE205 := am ((by rw [hg]; exact (below_size (by repeat (with_reducible first | exact HB.out | apply bA | apply bN | apply bD | refine bS ?_ GE170.out | refine bS ?_ GE171.out))) : w.heap.size ≤ gb205)); replace HB := am (below_step (by repeat (with_reducible first | exact HB.out | apply bA | apply bN | apply bD | refine bS ?_ GE170.out | refine bS ?_ GE171.out)) hb); have NB170_205 := am ((by rw [hg]; exact Nat.ne_of_lt (blk_lt (g := gb170) (by (with_reducible repeat (first | apply kB | apply kC | apply kE)); exact BK170.out)) : gb170 ≠ gb205)); have NB205_170 := am ((by rw [hg]; exact Nat.ne_of_gt (blk_lt (g := gb170) (by (with_reducible repeat (first | apply kB | apply kC | apply kE)); exact BK170.out)) : gb205 ≠ gb170)); replace BK170 := am (blk_below (g := gb170) (by (with_reducible repeat (first | apply kB | apply kC | apply kE)); exact BK170.out) hb); have NB171_205 := am ((by rw [hg]; exact Nat.ne_of_lt (blk_lt (g := gb171) (by (with_reducible repeat (first | apply kB | apply kC | apply kE)); exact BK171.out)) : gb171 ≠ gb205)); have NB205_171 := am ((by rw [hg]; exact Nat.ne_of_gt (blk_lt (g := gb171) (by (with_reducible repeat (first | apply kB | apply kC | apply kE)); exact BK171.out)) : gb205 ≠ gb171)); replace BK171 := am (blk_below (g := gb171) (by (with_reducible repeat (first | apply kB | apply kC | apply kE)); exact BK171.out) hb); clear hb hbox hg; have hnb59 := NB205_170.out; have hnc59 := NB170_205.out; have hnb60 := NB205_171.out; have hnc60 := NB171_205.out; have hcz61_0 : w58.cell? ⟨gb205, 0, none⟩ = some (.slice none 0 0) := (blk_cell BK205.out 0).trans rfl; have hcz61_1 : w58.cell? ⟨gb205, 1, none⟩ = some (.slice none 0 0) := (blk_cell BK205.out 1).trans rfl; have hcz61_2 : w58.cell? ⟨gb205, 2, none⟩ = some (.int .i64 0) := (blk_cell BK205.out 2).trans rfl; have hfz61_0 := blk_frozen BK205.out 0; have hfz61_1 := blk_frozen BK205.out 1; have hfz61_2 := blk_frozen BK205.out 2))
          have n0_ : Aside0 (Kd.R (Kd.int .i64) 3 (((w58.setCell ⟨gb205, 0, none⟩ (.slice Ao57 t199.length co57)).setCell ⟨gb205, 1, none⟩ (.slice Ao56 t200.length co56)).setCell ⟨gb205, 2, none⟩ (.int .i64 a0_2)) w.heap.size (fun k_ => some k_ ≠ (.slice Ao54 y193.length co54 : Value).ownBlock ∧ some k_ ≠ (.slice Ao57 t199.length co57 : Value).ownBlock ∧ some k_ ≠ (.slice Ao56 t200.length co56 : Value).ownBlock) (.slice (some ad192) y196.length co14) y196) := ⟨by (with_reducible repeat (first | apply rA | apply rN | apply rD)); exact Kd.R_mono (Kd.R_far (p := ⟨gb205, 2, none⟩) (Kd.R_far (p := ⟨gb205, 1, none⟩) (Kd.R_far (p := ⟨gb205, 0, none⟩) (Kd.R_types HO198.out BK205.out (by decide)) (fun _ hk => hk.2) (.slice Ao57 t199.length co57)) (fun _ hk => hk.2) (.slice Ao56 t200.length co56)) (fun _ hk => hk.2) (.int .i64 a0_2)) (fun _ hk => ⟨hk.1.1.1.2, ⟨hk.1.1.2, hk.1.2⟩⟩)⟩
          have n1_ : Aside0 (Kd.R (Kd.int .i64) 3 (((w58.setCell ⟨gb205, 0, none⟩ (.slice Ao57 t199.length co57)).setCell ⟨gb205, 1, none⟩ (.slice Ao56 t200.length co56)).setCell ⟨gb205, 2, none⟩ (.int .i64 a0_2)) w.heap.size (fun k_ => some k_ ≠ (.slice (some ad192) y196.length co14 : Value).ownBlock ∧ some k_ ≠ (.slice Ao57 t199.length co57 : Value).ownBlock ∧ some k_ ≠ (.slice Ao56 t200.length co56 : Value).ownBlock) (.slice Ao54 y193.length co54) y193) := ⟨by (with_reducible repeat (first | apply rA | apply rN | apply rD)); exact Kd.R_mono (Kd.R_far (p := ⟨gb205, 2, none⟩) (Kd.R_far (p := ⟨gb205, 1, none⟩) (Kd.R_far (p := ⟨gb205, 0, none⟩) (Kd.R_types HO195.out BK205.out (by decide)) (fun _ hk => hk.2) (.slice Ao57 t199.length co57)) (fun _ hk => hk.2) (.slice Ao56 t200.length co56)) (fun _ hk => hk.2) (.int .i64 a0_2)) (fun _ hk => ⟨hk.1.1.1, ⟨hk.1.1.2, hk.1.2⟩⟩)⟩
          have n2_ : Aside0 (Kd.R (Kd.int .i64) 3 (((w58.setCell ⟨gb205, 0, none⟩ (.slice Ao57 t199.length co57)).setCell ⟨gb205, 1, none⟩ (.slice Ao56 t200.length co56)).setCell ⟨gb205, 2, none⟩ (.int .i64 a0_2)) w.heap.size (fun k_ => some k_ ≠ (.slice (some ad192) y196.length co14 : Value).ownBlock ∧ some k_ ≠ (.slice Ao54 y193.length co54 : Value).ownBlock ∧ some k_ ≠ (.slice Ao56 t200.length co56 : Value).ownBlock) (.slice Ao57 t199.length co57) t199) := ⟨by (with_reducible repeat (first | apply rA | apply rN | apply rD)); exact Kd.R_mono (Kd.R_far (p := ⟨gb205, 2, none⟩) (Kd.R_far (p := ⟨gb205, 1, none⟩) (Kd.R_far (p := ⟨gb205, 0, none⟩) (Kd.R_types HO202.out BK205.out (by decide)) (fun _ hk => hk.2) (.slice Ao57 t199.length co57)) (fun _ hk => hk.2) (.slice Ao56 t200.length co56)) (fun _ hk => hk.2) (.int .i64 a0_2)) (fun _ hk => ⟨hk.1.1.2, ⟨hk.1.2, hk.1.1.1⟩⟩)⟩
          have n3_ : Aside0 (Kd.R (Kd.int .i64) 3 (((w58.setCell ⟨gb205, 0, none⟩ (.slice Ao57 t199.length co57)).setCell ⟨gb205, 1, none⟩ (.slice Ao56 t200.length co56)).setCell ⟨gb205, 2, none⟩ (.int .i64 a0_2)) w.heap.size (fun k_ => some k_ ≠ (.slice (some ad192) y196.length co14 : Value).ownBlock ∧ some k_ ≠ (.slice Ao54 y193.length co54 : Value).ownBlock ∧ some k_ ≠ (.slice Ao57 t199.length co57 : Value).ownBlock) (.slice Ao56 t200.length co56) t200) := ⟨by (with_reducible repeat (first | apply rA | apply rN | apply rD)); exact Kd.R_mono (Kd.R_far (p := ⟨gb205, 2, none⟩) (Kd.R_far (p := ⟨gb205, 1, none⟩) (Kd.R_far (p := ⟨gb205, 0, none⟩) (Kd.R_types HO204.out BK205.out (by decide)) (fun _ hk => hk.2) (.slice Ao57 t199.length co57)) (fun _ hk => hk.2) (.slice Ao56 t200.length co56)) (fun _ hk => hk.2) (.int .i64 a0_2)) (fun _ hk => ⟨hk.1.1.2, ⟨hk.1.2, hk.1.1.1⟩⟩)⟩
          have n4_ : Aside0 ((((w58.setCell ⟨gb205, 0, none⟩ (.slice Ao57 t199.length co57)).setCell ⟨gb205, 1, none⟩ (.slice Ao56 t200.length co56)).setCell ⟨gb205, 2, none⟩ (.int .i64 a0_2)).heap[gb170]? = some (.cells #[.slice A0_0 l0_0.length c0_0, .slice A0_1 l0_1.length c0_1, .int .i64 a0_2] 27 (0, 0))) := ⟨by (with_reducible repeat (first | apply kB | apply kC | apply kE)); refine blk_far ?_ NB170_205.out _; (with_reducible repeat (first | apply kB | apply kC | apply kE)); refine blk_far ?_ NB170_205.out _; (with_reducible repeat (first | apply kB | apply kC | apply kE)); refine blk_far ?_ NB170_205.out _; (with_reducible repeat (first | apply kB | apply kC | apply kE)); exact BK170.out⟩
          have n5_ : Aside0 ((((w58.setCell ⟨gb205, 0, none⟩ (.slice Ao57 t199.length co57)).setCell ⟨gb205, 1, none⟩ (.slice Ao56 t200.length co56)).setCell ⟨gb205, 2, none⟩ (.int .i64 a0_2)).heap[gb171]? = some (.cells #[.slice none 0 0, .slice none 0 0, .int .i64 0] 27 (0, 0))) := ⟨by (with_reducible repeat (first | apply kB | apply kC | apply kE)); refine blk_far ?_ NB171_205.out _; (with_reducible repeat (first | apply kB | apply kC | apply kE)); refine blk_far ?_ NB171_205.out _; (with_reducible repeat (first | apply kB | apply kC | apply kE)); refine blk_far ?_ NB171_205.out _; (with_reducible repeat (first | apply kB | apply kC | apply kE)); exact BK171.out⟩
          have n6_ : Aside0 ((((w58.setCell ⟨gb205, 0, none⟩ (.slice Ao57 t199.length co57)).setCell ⟨gb205, 1, none⟩ (.slice Ao56 t200.length co56)).setCell ⟨gb205, 2, none⟩ (.int .i64 a0_2)).heap[gb205]? = some (.cells #[.slice Ao57 t199.length co57, .slice Ao56 t200.length co56, .int .i64 a0_2] 27 (0, 0))) := ⟨by (with_reducible repeat (first | apply kB | apply kC | apply kE)); refine blk_put (cs := #[.slice Ao57 t199.length co57, .slice Ao56 t200.length co56, .int .i64 0]) ?_ 2 _ rfl; (with_reducible repeat (first | apply kB | apply kC | apply kE)); refine blk_put (cs := #[.slice Ao57 t199.length co57, .slice none 0 0, .int .i64 0]) ?_ 1 _ rfl; (with_reducible repeat (first | apply kB | apply kC | apply kE)); refine blk_put (cs := #[.slice none 0 0, .slice none 0 0, .int .i64 0]) ?_ 0 _ rfl; (with_reducible repeat (first | apply kB | apply kC | apply kE)); exact BK205.out⟩
          have n7_ : Aside0 (Below w.heap.size w (((w58.setCell ⟨gb205, 0, none⟩ (.slice Ao57 t199.length co57)).setCell ⟨gb205, 1, none⟩ (.slice Ao56 t200.length co56)).setCell ⟨gb205, 2, none⟩ (.int .i64 a0_2))) := ⟨by repeat (with_reducible first | exact HB.out | apply bA | apply bN | apply bD | refine bS ?_ GE170.out | refine bS ?_ GE171.out | refine bS ?_ GE205.out)⟩
          (try clear HO198)
          (try clear HO195)
          (try clear HO202)
          (try clear HO204)
          (try clear BK170)
          (try clear BK171)
          (try clear BK205)
          (try clear HB)
          generalize (((w58.setCell ⟨gb205, 0, none⟩ (.slice Ao57 t199.length co57)).setCell ⟨gb205, 1, none⟩ (.slice Ao56 t200.length co56)).setCell ⟨gb205, 2, none⟩ (.int .i64 a0_2)) = w62 at n0_ n1_ n2_ n3_ n4_ n5_ n6_ n7_ ⊢
          have HO198 := n0_
          have HO195 := n1_
          have HO202 := n2_
          have HO204 := n3_
          have BK170 := n4_
          have BK171 := n5_
          have BK205 := n6_
          have HB := n7_
          clear n0_ n1_ n2_ n3_ n4_ n5_ n6_ n7_
          replace HO198 := am (Kd.R_drew HO198.out)
          replace HO195 := am (Kd.R_drew HO195.out)
          replace HO202 := am (Kd.R_drew HO202.out)
          replace HO204 := am (Kd.R_drew HO204.out)
          replace BK170 := am (kC BK170.out)
          replace BK171 := am (kC BK171.out)
          replace BK205 := am (kC BK205.out)
          replace HB := am (below_drew1 HB.out)
          refine start_ (n := 5) (S := fun w' => w'.cell? ⟨gb205, 0, none⟩ = some (.slice Ao57 t199.length co57) ∧ w'.cell? ⟨gb205, 1, none⟩ = some (.slice Ao56 t200.length co56) ∧ w'.cell? ⟨gb205, 2, none⟩ = some (.int .i64 a0_2)) (ds := []) #[false, false, false, false, false] (by kernel_rfl) rfl rfl ⟨(blk_cell BK205.out 0).trans rfl, (blk_cell BK205.out 1).trans rfl, (blk_cell BK205.out 2).trans rfl⟩ (fun hHeld => ?_)
          generalize w62.drew = w63 at HO198 HO195 HO202 HO204 BK170 BK171 BK205 HB hHeld ⊢
          refine take_ (i := 0) (N := some 142) (v := ?_) (a' := ?_) #[true, false, false, false, false] rfl rfl (by kernel_rfl) (fun _ _ _ h => h) (Or.inl ⟨by rfl, ?_⟩) hHeld ?_ ?_
          rotate_left
          ·rintro w' ⟨s0, s1, s2⟩
           go_simp
           with_reducible rfl
          rotate_left
          ·simp only [Act.put, sI, s0_, s1_, i64_w, i32_w]
           rfl
          refine take_ (i := 1) (N := some 143) (v := ?_) (a' := ?_) #[true, true, false, false, false] rfl rfl (by kernel_rfl) (fun _ _ _ h => h) (Or.inl ⟨by rfl, ?_⟩) hHeld ?_ ?_
          rotate_left
          ·rintro w' ⟨s0, s1, s2⟩
           go_simp
           with_reducible rfl
          rotate_left
          ·simp only [Act.put, sI, s0_, s1_, i64_w, i32_w]
           rfl
          refine one_ (i := 2) (N := some 144) #[true, true, true, false, false] rfl rfl (by kernel_rfl) (by decide) (fun K hK => ?_)
          refine goes_ Try.func37 (by kernel_rfl) rfl #[.agg #[.slice Ao57 t199.length co57, .slice Ao56 t200.length co56, .int .i64 a0_2]] (by rfl) rfl rfl (by (try simp only [mT, mC, mZ]); first | done | rfl) ?_
          with_reducible refine (spec_stGood.calls kj4 _ _ t199 _ _ t200 a0_2 t206 _ ?side1 ?side2 ?side3 ?side4 A51.out).mono ?_
          (case side1 => repeat (first | exact (Kd.R_reads' HO202.out).2.2 | (with_reducible first | apply cA | apply cN | apply cD)))
          (case side2 => exact (Kd.R_reads' HO202.out).2.1)
          (case side3 => repeat (first | exact (Kd.R_reads' HO204.out).2.2 | (with_reducible first | apply cA | apply cN | apply cD)))
          (case side4 => exact (Kd.R_reads' HO204.out).2.1)
          rintro e w64 ⟨rfl, hb⟩
          refine ⟨_, rfl, ?_⟩
          replace HO198 := am (Kd.R_below (by (with_reducible repeat (first | apply rA | apply rN | apply rD)); exact HO198.out) hb)
          replace HO195 := am (Kd.R_below (by (with_reducible repeat (first | apply rA | apply rN | apply rD)); exact HO195.out) hb)
          replace HO202 := am (Kd.R_below (by (with_reducible repeat (first | apply rA | apply rN | apply rD)); exact HO202.out) hb)
          replace HO204 := am (Kd.R_below (by (with_reducible repeat (first | apply rA | apply rN | apply rD)); exact HO204.out) hb)
          replace BK170 := am (blk_below (g := gb170) (by (with_reducible repeat (first | apply kB | apply kC | apply kE)); exact BK170.out) hb)
          replace BK171 := am (blk_below (g := gb171) (by (with_reducible repeat (first | apply kB | apply kC | apply kE)); exact BK171.out) hb)
          replace BK205 := am (blk_below (g := gb205) (by (with_reducible repeat (first | apply kB | apply kC | apply kE)); exact BK205.out) hb)
          replace HB := am (below_step (by repeat (with_reducible first | exact HB.out | apply bA | apply bN | apply bD | refine bS ?_ GE170.out | refine bS ?_ GE171.out | refine bS ?_ GE205.out)) hb)
          (try clear hb)
          (try clear hb2)
          (try clear hk)
          (try clear hi)
          refine hK.out _ _ ⟨(blk_cell BK205.out 0).trans rfl, (blk_cell BK205.out 1).trans rfl, (blk_cell BK205.out 2).trans rfl⟩ (fun hHeld => ?_)
          clear hK K
          refine norm_ (a' := ?_) ?_ ?_
          rotate_left
          ·show Act.put _ (some 144) _ = _
           simp only [Act.put, sI, s0_, s1_, i64_w, i32_w]
           rfl
          refine one_ (i := 3) (N := none) #[true, true, true, true, false] rfl rfl (by kernel_rfl) (by decide) (fun K hK => ?_)
          have hs65 : w64.cell? ⟨gb171, 0, none⟩ = some (.slice none 0 0) := (blk_cell BK171.out 0).trans rfl
          have hfs65 := blk_frozen BK171.out 0
          have hns65_0 := NB170_171.out
          have hns65_2 := NB205_171.out
          have hms65_0 := NB171_170.out
          have hms65_2 := NB171_205.out
          have hs66 : w64.cell? ⟨gb171, 1, none⟩ = some (.slice none 0 0) := (blk_cell BK171.out 1).trans rfl
          have hfs66 := blk_frozen BK171.out 1
          have hns66_0 := NB170_171.out
          have hns66_2 := NB205_171.out
          have hms66_0 := NB171_170.out
          have hms66_2 := NB171_205.out
          have hs67 : w64.cell? ⟨gb171, 2, none⟩ = some (.int .i64 0) := (blk_cell BK171.out 2).trans rfl
          have hfs67 := blk_frozen BK171.out 2
          have hns67_0 := NB170_171.out
          have hns67_2 := NB205_171.out
          have hms67_0 := NB171_170.out
          have hms67_2 := NB171_205.out
          refine skip_ (w1 := ?_) (by rfl) rfl ?_ ?_
          rotate_left
          ·go_simp
           rfl
          refine hK.out _ _ ⟨((cell_far (p := ⟨gb171, _, none⟩) NB205_171.out _).trans (((cell_far (p := ⟨gb171, _, none⟩) NB205_171.out _).trans (((cell_far (p := ⟨gb171, _, none⟩) NB205_171.out _).trans (hHeld.1)))))), ((cell_far (p := ⟨gb171, _, none⟩) NB205_171.out _).trans (((cell_far (p := ⟨gb171, _, none⟩) NB205_171.out _).trans (((cell_far (p := ⟨gb171, _, none⟩) NB205_171.out _).trans (hHeld.2.1)))))), ((cell_far (p := ⟨gb171, _, none⟩) NB205_171.out _).trans (((cell_far (p := ⟨gb171, _, none⟩) NB205_171.out _).trans (((cell_far (p := ⟨gb171, _, none⟩) NB205_171.out _).trans (hHeld.2.2))))))⟩ (fun hHeld => ?_)
          clear hK K
          refine pure_ (i := 4) (N := some 5) (v := ?_) (a' := ?_) #[true, true, true, true, true] rfl rfl (by kernel_rfl) (fun _ _ _ h => h) (Or.inl ⟨by rfl, ?_⟩) ?_ ?_
          rotate_left
          ·intro w'
           go_simp
           with_reducible rfl
          rotate_left
          ·simp only [Act.put, sI, s0_, s1_, i64_w, i32_w]
           rfl
          refine done_ (by kernel_rfl) ?_
          try go_wp2
          refine bodyPost_ret (results_ct rfl _ _ gb171 27 #[.slice Ao57 t199.length co57, .slice Ao56 t200.length co56, .int .i64 a0_2] (0, 0) _ rfl (by (with_reducible repeat (first | apply kB | apply kC | apply kE)); refine blk_put (cs := #[.slice Ao57 t199.length co57, .slice Ao56 t200.length co56, .int .i64 0]) ?_ 2 _ rfl; (with_reducible repeat (first | apply kB | apply kC | apply kE)); refine blk_put (cs := #[.slice Ao57 t199.length co57, .slice none 0 0, .int .i64 0]) ?_ 1 _ rfl; (with_reducible repeat (first | apply kB | apply kC | apply kE)); refine blk_put (cs := #[.slice none 0 0, .slice none 0 0, .int .i64 0]) ?_ 0 _ rfl; (with_reducible repeat (first | apply kB | apply kC | apply kE)); exact BK171.out) Try.underlying27 rfl (by kernel_rfl)) rfl ?_
          exact ⟨_, _, by first | rfl | (simp [errW_none, errW_some] <;> rfl) | (simp only [← hji45]; first | rfl | (simp [errW_none, errW_some] <;> rfl)) | (simp [*, errW_none, errW_some] <;> rfl), by (with_reducible repeat (first | apply rA | apply rN | apply rD)); exact Kd.R_mono (Kd.R_far (p := ⟨gb171, 2, none⟩) (Kd.R_far (p := ⟨gb171, 1, none⟩) (Kd.R_far (p := ⟨gb171, 0, none⟩) (Kd.R_types HO202.out BK171.out (by decide)) (fun _ hk => hk.2) (.slice Ao57 t199.length co57)) (fun _ hk => hk.2) (.slice Ao56 t200.length co56)) (fun _ hk => hk.2) (.int .i64 a0_2)) (fun _ hk => hk.1.2.2), by (with_reducible repeat (first | apply rA | apply rN | apply rD)); exact Kd.R_mono (Kd.R_far (p := ⟨gb171, 2, none⟩) (Kd.R_far (p := ⟨gb171, 1, none⟩) (Kd.R_far (p := ⟨gb171, 0, none⟩) (Kd.R_types HO204.out BK171.out (by decide)) (fun _ hk => hk.2) (.slice Ao57 t199.length co57)) (fun _ hk => hk.2) (.slice Ao56 t200.length co56)) (fun _ hk => hk.2) (.int .i64 a0_2)) (fun _ hk => hk.1.2.2), by repeat (with_reducible first | exact HB.out | apply bA | apply bN | apply bD | refine bS ?_ GE170.out | refine bS ?_ GE171.out | refine bS ?_ GE205.out)⟩
         ·rw [if_neg c49] at H
          exact absurd H (by simp)
        ·rw [if_neg c48] at H
         exact absurd H (by simp)
       ·rw [if_neg c47] at H
        exact absurd H (by simp)
      ·rw [if_neg c46] at H
       exact absurd H (by simp)
     ·rw [if_neg c44] at H
      have c44b0 : (a1 == 1) = false := beq_eq_false_iff_ne.mpr c44
      have c44b1 : (a1 != 1) = true := bne_iff_ne.mpr c44
      by_cases c68 : a1 = 2
      ·rw [if_pos c68] at H
       have c68b0 : (a1 == 2) = true := beq_iff_eq.mpr c68
       have c68b1 : (a1 != 2) = false := bne_eq_false_iff_eq.mpr c68
       clear c68
       obtain ⟨ji69, hji69⟩ : ∃ j_ : Int, (wrap64 ((t172.length : Int) - 1)) = j_ := ⟨_, rfl⟩
       replace H : (if 0 ≤ (ji69) then (if (ji69) < (t172.length : Int) then (if t175.length < 17592186044416 then (if (ji69) ≤ (t172.length : Int) then ((spec_stRename.f kj4 (t172.take ((ji69) : Int).toNat) (t175 ++ [rd t172 (ji69)])).bind fun bt214 => ((spec_stGood.f kj4 bt214.1 bt214.2 a0_2).bind fun t221 => (some (bt214.1, bt214.2, a0_2, t221)))) else (none)) else (none)) else (none)) else (none)) = some (r1, r2, r3, r4) := by first | (rw [hji69] at H; exact H) | (simp only [hji69] at H ⊢; exact H)
       have hji69w : (IntKind.i64.wrap ((t172.length : Int) - 1)) = ji69 := (i64_w _).trans hji69
       by_cases c70 : 0 ≤ (ji69)
       ·rw [if_pos c70] at H
        have c70b0 : decide (0 ≤ (ji69)) = true := decide_eq_true c70
        clear c70
        by_cases c71 : (ji69) < (t172.length : Int)
        ·rw [if_pos c71] at H
         have c71b0 : decide ((ji69) < (t172.length : Int)) = true := decide_eq_true c71
         clear c71
         by_cases c72 : t175.length < 17592186044416
         ·rw [if_pos c72] at H
          have LMc72 := am c72
          clear c72
          obtain ⟨y208, hy208⟩ : ∃ y_ : List Int, y_ = (t175 ++ [rd t172 (ji69)]) := ⟨_, rfl⟩
          replace H : (if (ji69) ≤ (t172.length : Int) then ((spec_stRename.f kj4 (t172.take ((ji69) : Int).toNat) y208).bind fun bt214 => ((spec_stGood.f kj4 bt214.1 bt214.2 a0_2).bind fun t221 => (some (bt214.1, bt214.2, a0_2, t221)))) else (none)) = some (r1, r2, r3, r4) := by first | (rw [hy208]; with_reducible exact H) | (have H2_ := (Option.bind_some _ _).symm.trans H; rw [hy208]; with_reducible exact H2_) | (have H2_ := (Option.bind_some _ _).symm.trans H; with_reducible exact H2_) | with_reducible exact H | (rw [hy208]; exact H) | exact H
          have Ny208 := am hy208
          clear hy208
          by_cases c73 : (ji69) ≤ (t172.length : Int)
          ·rw [if_pos c73] at H
           have c73b0 := eq_true c73
           have c73b1 : decide ((ji69) ≤ (t172.length : Int)) = true := decide_eq_true c73
           clear c73
           obtain ⟨y211, hy211⟩ : ∃ y_ : List Int, y_ = (t172.take ((ji69) : Int).toNat) := ⟨_, rfl⟩
           replace H : ((spec_stRename.f kj4 y211 y208).bind fun bt214 => ((spec_stGood.f kj4 bt214.1 bt214.2 a0_2).bind fun t221 => (some (bt214.1, bt214.2, a0_2, t221)))) = some (r1, r2, r3, r4) := by first | (rw [hy211]; with_reducible exact H) | (have H2_ := (Option.bind_some _ _).symm.trans H; rw [hy211]; with_reducible exact H2_) | (have H2_ := (Option.bind_some _ _).symm.trans H; with_reducible exact H2_) | with_reducible exact H | (rw [hy211]; exact H) | exact H
           have Ny211 := am hy211
           clear hy211
           replace H := Option.bind_eq_some_iff.mp H
           obtain ⟨⟨t214, t215⟩, A740, H⟩ := H
           replace H : ((spec_stGood.f kj4 t214 t215 a0_2).bind fun t221 => (some (t214, t215, a0_2, t221))) = some (r1, r2, r3, r4) := H
           have A74 := am A740
           clear A740
           replace H := Option.bind_eq_some_iff.mp H
           obtain ⟨t221, A750, H⟩ := H
           replace H : (some (t214, t215, a0_2, t221)) = some (r1, r2, r3, r4) := H
           have A75 := am A750
           clear A750
           simp only [Option.some.injEq, Prod.mk.injEq] at H
           obtain ⟨rfl, rfl, rfl, rfl⟩ := H
           have p207 : 0 ≤ ((ji69) : Int) := ofd (by assumption)
           have q207 : (ji69) < (t172.length : Int) := ofd (by assumption)
           obtain ⟨ad207, e207, hx207_0⟩ := Kd.at_int (Kd.R_reads' HO_6.out).2.2 (ji69) p207 q207
           cases e207
           replace p207 := eq_true p207
           replace q207 := eq_true q207
           try go_wp2_with (first | ((with_reducible refine gate_builtin (b := .append) (xs := #[.tmp 122, .tmp 127]) rfl ?_); at_builtin; refine Kd.R_append (Kd.int .i64) (w0 := w) w.heap.size rfl (.tmp 122) (.tmp 127) 22 3 (.int .i64 0) 8 rfl Try.underlying22 info3 rfl (by decide) (by omega) (.slice Ao14 t175.length co14) t175 (rd t172 (ji69)) [.int .i64 (rd t172 (ji69))] (fun k_ => some k_ ≠ (.slice (some ad207) t172.length co13 : Value).ownBlock) (fun _ => False) rfl rfl ?aP (fun _ hk => hk.elim) ?aF ?aO ?aB ?aS ?aL ?_; (case aP => exact rfl); (case aB => exact (by repeat (with_reducible first | exact HB.out | apply bA | apply bN | apply bD | refine bS ?_ GE170.out | refine bS ?_ GE171.out))); (case aF => exact (fun k_ hk => Kd.fresh' (Kd.R_lt (by (with_reducible repeat (first | apply rA | apply rN | apply rD)); exact HO_6.out)) k_ hk)); (case aO => exact (by (with_reducible repeat (first | apply rA | apply rN | apply rD)); exact HO_7.out)); (case aS => exact (below_size (by repeat (with_reducible first | exact HB.out | apply bA | apply bN | apply bD | refine bS ?_ GE170.out | refine bS ?_ GE171.out)))); (case aL => have := LMc72.out; omega); intro v209 w76 ho hb hg hat; rw [← Ny208.out] at ho; replace HO_6 := am (Kd.R_after (ok := (fun _ => True)) (by (with_reducible repeat (first | apply rA | apply rN | apply rD)); exact Kd.R_mono HO_6.out (fun _ hk => ⟨trivial, hk⟩)) hg hat); replace BK170 := am (blk_grown (g := gb170) (by (with_reducible repeat (first | apply kB | apply kC | apply kE)); exact BK170.out) hg (Kd.R_ne HO_7.out BK170.out (by decide))); replace BK171 := am (blk_grown (g := gb171) (by (with_reducible repeat (first | apply kB | apply kC | apply kE)); exact BK171.out) hg (Kd.R_ne HO_7.out BK171.out (by decide))); replace HB := am (hb); have HO210 := am (ho); clear HO_7; clear ho hb hg hat; have q77 : ((ji69) : Int) ≤ ((t172.length : Int) : Int) := ofd (by assumption); obtain ⟨i077, hi077, _, hsz77, _⟩ := info_parts info3; have hcut77 := cut_to (P := Try.prog) 22 3 .i64 Try.underlying22 hi077 (some ad207) t172.length co13 (ji69) (ofd (by assumption)) q77 (Kd.R_reads' HO_6.out).2.1; have hr77 := Kd.R_take (m := ((ji69) : Int).toNat) HO_6.out (by omega); have hy77 : y211.length = ((ji69) : Int).toNat := (by rw [Ny211.out, List.length_take]; omega); rw [← Ny211.out] at hr77; rw [← hy77] at hr77 hcut77; clear hy77 hi077 hsz77 HO_6; have HO213 := am hr77; clear hr77; replace q77 := eq_true q77; obtain ⟨Ao78, co78, eo78⟩ := Kd.R_slice HO210.out; subst eo78) | ((with_reducible refine gate_callee (f := 48) rfl ?_); refine goesL_ (some 135) rfl rfl Try.func48 (by kernel_rfl) rfl #[.slice (some ad207) y211.length co13, .slice Ao78 y208.length co78] rfl (by (try simp only [mT, mC, mZ]); first | done | rfl) ?_; (with_reducible refine (spec_stRename.calls kj4 _ _ y211 _ _ y208 t214 t215 _ ?side1 ?side2 ?side3 ?side4 A74.out).mono ?_); (case side1 => repeat (first | exact (Kd.R_reads' HO213.out).2.2 | (with_reducible first | apply cA | apply cN | apply cD))); (case side2 => exact (Kd.R_reads' HO213.out).2.1); (case side3 => repeat (first | exact (Kd.R_reads' HO210.out).2.2 | (with_reducible first | apply cA | apply cN | apply cD))); (case side4 => exact (Kd.R_reads' HO210.out).2.1); rintro e w79 ⟨v216, v218, rfl, ho0, ho1, hb⟩; refine ⟨_, rfl, ?_⟩; have HO217 := am (Kd.R_lower (Kd.R_new' (Kd.R_new' ho0 (Kd.R_lt (by (with_reducible repeat (first | apply rA | apply rN | apply rD)); exact HO213.out))) (Kd.R_lt (by (with_reducible repeat (first | apply rA | apply rN | apply rD)); exact HO210.out))) (below_size (by repeat (with_reducible first | exact HB.out | apply bA | apply bN | apply bD | refine bS ?_ GE170.out | refine bS ?_ GE171.out)))); have HO219 := am (Kd.R_lower (Kd.R_new' (Kd.R_new' ho1 (Kd.R_lt (by (with_reducible repeat (first | apply rA | apply rN | apply rD)); exact HO213.out))) (Kd.R_lt (by (with_reducible repeat (first | apply rA | apply rN | apply rD)); exact HO210.out))) (below_size (by repeat (with_reducible first | exact HB.out | apply bA | apply bN | apply bD | refine bS ?_ GE170.out | refine bS ?_ GE171.out)))); replace HO213 := am (Kd.R_mono (Kd.R_told (Kd.R_told (Kd.R_old (by (with_reducible repeat (first | apply rA | apply rN | apply rD)); exact HO213.out) hb) (Kd.R_base ho0)) (Kd.R_base ho1)) (fun _ h_ => h_.1)); replace HO210 := am (Kd.R_mono (Kd.R_told (Kd.R_told (Kd.R_old (by (with_reducible repeat (first | apply rA | apply rN | apply rD)); exact HO210.out) hb) (Kd.R_base ho0)) (Kd.R_base ho1)) (fun _ h_ => h_.1)); replace BK170 := am (blk_below (g := gb170) (by (with_reducible repeat (first | apply kB | apply kC | apply kE)); exact BK170.out) hb); replace BK171 := am (blk_below (g := gb171) (by (with_reducible repeat (first | apply kB | apply kC | apply kE)); exact BK171.out) hb); replace HB := am (below_step (by repeat (with_reducible first | exact HB.out | apply bA | apply bN | apply bD | refine bS ?_ GE170.out | refine bS ?_ GE171.out)) hb); (try clear hb); (try clear hb2); (try clear hk); (try clear hi); (try clear ho0); (try clear ho1); obtain ⟨Ao80, co80, eo80⟩ := Kd.R_slice HO219.out; subst eo80; obtain ⟨Ao81, co81, eo81⟩ := Kd.R_slice HO217.out; subst eo81) | ((with_reducible refine gate_dst (N := 17) rfl ?_); refine box_event ?hg (N := 17) ?hd (cs := #[.slice none 0 0, .slice none 0 0, .int .i64 0]) (t := 27) ?hr ?_; (case hd => rfl); (case hg => rfl); (case hr => first | (go_simp; done) | (go_simp; rfl)); intro gb220 hg w82 hbox hb; replace HO213 := am (Kd.R_below (by (with_reducible repeat (first | apply rA | apply rN | apply rD)); exact HO213.out) hb); replace HO210 := am (Kd.R_below (by (with_reducible repeat (first | apply rA | apply rN | apply rD)); exact HO210.out) hb); replace HO217 := am (Kd.R_below (by (with_reducible repeat (first | apply rA | apply rN | apply rD)); exact HO217.out) hb); replace HO219 := am (Kd.R_below (by (with_reducible repeat (first | apply rA | apply rN | apply rD)); exact HO219.out) hb); have BK220 := am (hbox); have GW220 := am ((by rw [hg]; exact (below_size (by repeat (with_reducible first | exact HB.out | apply bA | apply bN | apply bD | refine bS ?_ GE170.out | refine bS ?_ GE171.out))) : w.heap.size ≤ gb220)); have GE220 := am ((by rw [hg]; exact (below_size (by repeat (with_reducible first | exact HB.out | apply bA | apply bN | apply bD | refine bS ?_ GE170.out | refine bS ?_ GE171.out))) : w.heap.size ≤ gb220)); replace HB := am (below_step (by repeat (with_reducible first | exact HB.out | apply bA | apply bN | apply bD | refine bS ?_ GE170.out | refine bS ?_ GE171.out)) hb); have NB170_220 := am ((by rw [hg]; exact Nat.ne_of_lt (blk_lt (g := gb170) (by (with_reducible repeat (first | apply kB | apply kC | apply kE)); exact BK170.out)) : gb170 ≠ gb220)); have NB220_170 := am ((by rw [hg]; exact Nat.ne_of_gt (blk_lt (g := gb170) (by (with_reducible repeat (first | apply kB | apply kC | apply kE)); exact BK170.out)) : gb220 ≠ gb170)); replace BK170 := am (blk_below (g := gb170) (by (with_reducible repeat (first | apply kB | apply kC | apply kE)); exact BK170.out) hb); have NB171_220 := am ((by rw [hg]; exact Nat.ne_of_lt (blk_lt (g := gb171) (by (with_reducible repeat (first | apply kB | apply kC | apply kE)); exact BK171.out)) : gb171 ≠ gb220)); have NB220_171 := am ((by rw [hg]; exact Nat.ne_of_gt (blk_lt (g := gb171) (by (with_reducible repeat (first | apply kB | apply kC | apply kE)); exact BK171.out)) : gb220 ≠ gb171)); replace BK171 := am (blk_below (g := gb171) (by (with_reducible repeat (first | apply kB | apply kC | apply kE)); exact BK171.out) hb); clear hb hbox hg; have hnb83 := NB220_170.out; have hnc83 := NB170_220.out; have hnb84 := NB220_171.out; have hnc84 := NB171_220.out; have hcz85_0 : w82.cell? ⟨gb220, 0, none⟩ = some (.slice none 0 0) := (blk_cell BK220.out 0).trans rfl; have hcz85_1 : w82.cell? ⟨gb220, 1, none⟩ = some (.slice none 0 0) := (blk_cell BK220.out 1).trans rfl; have hcz85_2 : w82.cell? ⟨gb220, 2, none⟩ = some (.int .i64 0) := (blk_cell BK220.out 2).trans rfl; have hfz85_0 := blk_frozen BK220.out 0; have hfz85_1 := blk_frozen BK220.out 1; have hfz85_2 := blk_frozen BK220.out 2))
           have n0_ : Aside0 (Kd.R (Kd.int .i64) 3 (((w82.setCell ⟨gb220, 0, none⟩ (.slice Ao81 t214.length co81)).setCell ⟨gb220, 1, none⟩ (.slice Ao80 t215.length co80)).setCell ⟨gb220, 2, none⟩ (.int .i64 a0_2)) w.heap.size (fun k_ => some k_ ≠ (.slice Ao78 y208.length co78 : Value).ownBlock ∧ some k_ ≠ (.slice Ao81 t214.length co81 : Value).ownBlock ∧ some k_ ≠ (.slice Ao80 t215.length co80 : Value).ownBlock) (.slice (some ad207) y211.length co13) y211) := ⟨by (with_reducible repeat (first | apply rA | apply rN | apply rD)); exact Kd.R_mono (Kd.R_far (p := ⟨gb220, 2, none⟩) (Kd.R_far (p := ⟨gb220, 1, none⟩) (Kd.R_far (p := ⟨gb220, 0, none⟩) (Kd.R_types HO213.out BK220.out (by decide)) (fun _ hk => hk.2) (.slice Ao81 t214.length co81)) (fun _ hk => hk.2) (.slice Ao80 t215.length co80)) (fun _ hk => hk.2) (.int .i64 a0_2)) (fun _ hk => ⟨hk.1.1.1.2, ⟨hk.1.1.2, hk.1.2⟩⟩)⟩
           have n1_ : Aside0 (Kd.R (Kd.int .i64) 3 (((w82.setCell ⟨gb220, 0, none⟩ (.slice Ao81 t214.length co81)).setCell ⟨gb220, 1, none⟩ (.slice Ao80 t215.length co80)).setCell ⟨gb220, 2, none⟩ (.int .i64 a0_2)) w.heap.size (fun k_ => some k_ ≠ (.slice (some ad207) y211.length co13 : Value).ownBlock ∧ some k_ ≠ (.slice Ao81 t214.length co81 : Value).ownBlock ∧ some k_ ≠ (.slice Ao80 t215.length co80 : Value).ownBlock) (.slice Ao78 y208.length co78) y208) := ⟨by (with_reducible repeat (first | apply rA | apply rN | apply rD)); exact Kd.R_mono (Kd.R_far (p := ⟨gb220, 2, none⟩) (Kd.R_far (p := ⟨gb220, 1, none⟩) (Kd.R_far (p := ⟨gb220, 0, none⟩) (Kd.R_types HO210.out BK220.out (by decide)) (fun _ hk => hk.2) (.slice Ao81 t214.length co81)) (fun _ hk => hk.2) (.slice Ao80 t215.length co80)) (fun _ hk => hk.2) (.int .i64 a0_2)) (fun _ hk => ⟨hk.1.1.1, ⟨hk.1.1.2, hk.1.2⟩⟩)⟩
           have n2_ : Aside0 (Kd.R (Kd.int .i64) 3 (((w82.setCell ⟨gb220, 0, none⟩ (.slice Ao81 t214.length co81)).setCell ⟨gb220, 1, none⟩ (.slice Ao80 t215.length co80)).setCell ⟨gb220, 2, none⟩ (.int .i64 a0_2)) w.heap.size (fun k_ => some k_ ≠ (.slice (some ad207) y211.length co13 : Value).ownBlock ∧ some k_ ≠ (.slice Ao78 y208.length co78 : Value).ownBlock ∧ some k_ ≠ (.slice Ao80 t215.length co80 : Value).ownBlock) (.slice Ao81 t214.length co81) t214) := ⟨by (with_reducible repeat (first | apply rA | apply rN | apply rD)); exact Kd.R_mono (Kd.R_far (p := ⟨gb220, 2, none⟩) (Kd.R_far (p := ⟨gb220, 1, none⟩) (Kd.R_far (p := ⟨gb220, 0, none⟩) (Kd.R_types HO217.out BK220.out (by decide)) (fun _ hk => hk.2) (.slice Ao81 t214.length co81)) (fun _ hk => hk.2) (.slice Ao80 t215.length co80)) (fun _ hk => hk.2) (.int .i64 a0_2)) (fun _ hk => ⟨hk.1.1.2, ⟨hk.1.2, hk.1.1.1⟩⟩)⟩
           have n3_ : Aside0 (Kd.R (Kd.int .i64) 3 (((w82.setCell ⟨gb220, 0, none⟩ (.slice Ao81 t214.length co81)).setCell ⟨gb220, 1, none⟩ (.slice Ao80 t215.length co80)).setCell ⟨gb220, 2, none⟩ (.int .i64 a0_2)) w.heap.size (fun k_ => some k_ ≠ (.slice (some ad207) y211.length co13 : Value).ownBlock ∧ some k_ ≠ (.slice Ao78 y208.length co78 : Value).ownBlock ∧ some k_ ≠ (.slice Ao81 t214.length co81 : Value).ownBlock) (.slice Ao80 t215.length co80) t215) := ⟨by (with_reducible repeat (first | apply rA | apply rN | apply rD)); exact Kd.R_mono (Kd.R_far (p := ⟨gb220, 2, none⟩) (Kd.R_far (p := ⟨gb220, 1, none⟩) (Kd.R_far (p := ⟨gb220, 0, none⟩) (Kd.R_types HO219.out BK220.out (by decide)) (fun _ hk => hk.2) (.slice Ao81 t214.length co81)) (fun _ hk => hk.2) (.slice Ao80 t215.length co80)) (fun _ hk => hk.2) (.int .i64 a0_2)) (fun _ hk => ⟨hk.1.1.2, ⟨hk.1.2, hk.1.1.1⟩⟩)⟩
           have n4_ : Aside0 ((((w82.setCell ⟨gb220, 0, none⟩ (.slice Ao81 t214.length co81)).setCell ⟨gb220, 1, none⟩ (.slice Ao80 t215.length co80)).setCell ⟨gb220, 2, none⟩ (.int .i64 a0_2)).heap[gb170]? = some (.cells #[.slice A0_0 l0_0.length c0_0, .slice A0_1 l0_1.length c0_1, .int .i64 a0_2] 27 (0, 0))) := ⟨by (with_reducible repeat (first | apply kB | apply kC | apply kE)); refine blk_far ?_ NB170_220.out _; (with_reducible repeat (first | apply kB | apply kC | apply kE)); refine blk_far ?_ NB170_220.out _; (with_reducible repeat (first | apply kB | apply kC | apply kE)); refine blk_far ?_ NB170_220.out _; (with_reducible repeat (first | apply kB | apply kC | apply kE)); exact BK170.out⟩
           have n5_ : Aside0 ((((w82.setCell ⟨gb220, 0, none⟩ (.slice Ao81 t214.length co81)).setCell ⟨gb220, 1, none⟩ (.slice Ao80 t215.length co80)).setCell ⟨gb220, 2, none⟩ (.int .i64 a0_2)).heap[gb171]? = some (.cells #[.slice none 0 0, .slice none 0 0, .int .i64 0] 27 (0, 0))) := ⟨by (with_reducible repeat (first | apply kB | apply kC | apply kE)); refine blk_far ?_ NB171_220.out _; (with_reducible repeat (first | apply kB | apply kC | apply kE)); refine blk_far ?_ NB171_220.out _; (with_reducible repeat (first | apply kB | apply kC | apply kE)); refine blk_far ?_ NB171_220.out _; (with_reducible repeat (first | apply kB | apply kC | apply kE)); exact BK171.out⟩
           have n6_ : Aside0 ((((w82.setCell ⟨gb220, 0, none⟩ (.slice Ao81 t214.length co81)).setCell ⟨gb220, 1, none⟩ (.slice Ao80 t215.length co80)).setCell ⟨gb220, 2, none⟩ (.int .i64 a0_2)).heap[gb220]? = some (.cells #[.slice Ao81 t214.length co81, .slice Ao80 t215.length co80, .int .i64 a0_2] 27 (0, 0))) := ⟨by (with_reducible repeat (first | apply kB | apply kC | apply kE)); refine blk_put (cs := #[.slice Ao81 t214.length co81, .slice Ao80 t215.length co80, .int .i64 0]) ?_ 2 _ rfl; (with_reducible repeat (first | apply kB | apply kC | apply kE)); refine blk_put (cs := #[.slice Ao81 t214.length co81, .slice none 0 0, .int .i64 0]) ?_ 1 _ rfl; (with_reducible repeat (first | apply kB | apply kC | apply kE)); refine blk_put (cs := #[.slice none 0 0, .slice none 0 0, .int .i64 0]) ?_ 0 _ rfl; (with_reducible repeat (first | apply kB | apply kC | apply kE)); exact BK220.out⟩
           have n7_ : Aside0 (Below w.heap.size w (((w82.setCell ⟨gb220, 0, none⟩ (.slice Ao81 t214.length co81)).setCell ⟨gb220, 1, none⟩ (.slice Ao80 t215.length co80)).setCell ⟨gb220, 2, none⟩ (.int .i64 a0_2))) := ⟨by repeat (with_reducible first | exact HB.out | apply bA | apply bN | apply bD | refine bS ?_ GE170.out | refine bS ?_ GE171.out | refine bS ?_ GE220.out)⟩
           (try clear HO213)
           (try clear HO210)
           (try clear HO217)
           (try clear HO219)
           (try clear BK170)
           (try clear BK171)
           (try clear BK220)
           (try clear HB)
           generalize (((w82.setCell ⟨gb220, 0, none⟩ (.slice Ao81 t214.length co81)).setCell ⟨gb220, 1, none⟩ (.slice Ao80 t215.length co80)).setCell ⟨gb220, 2, none⟩ (.int .i64 a0_2)) = w86 at n0_ n1_ n2_ n3_ n4_ n5_ n6_ n7_ ⊢
           have HO213 := n0_
           have HO210 := n1_
           have HO217 := n2_
           have HO219 := n3_
           have BK170 := n4_
           have BK171 := n5_
           have BK220 := n6_
           have HB := n7_
           clear n0_ n1_ n2_ n3_ n4_ n5_ n6_ n7_
           replace HO213 := am (Kd.R_drew HO213.out)
           replace HO210 := am (Kd.R_drew HO210.out)
           replace HO217 := am (Kd.R_drew HO217.out)
           replace HO219 := am (Kd.R_drew HO219.out)
           replace BK170 := am (kC BK170.out)
           replace BK171 := am (kC BK171.out)
           replace BK220 := am (kC BK220.out)
           replace HB := am (below_drew1 HB.out)
           refine start_ (n := 5) (S := fun w' => w'.cell? ⟨gb220, 0, none⟩ = some (.slice Ao81 t214.length co81) ∧ w'.cell? ⟨gb220, 1, none⟩ = some (.slice Ao80 t215.length co80) ∧ w'.cell? ⟨gb220, 2, none⟩ = some (.int .i64 a0_2)) (ds := []) #[false, false, false, false, false] (by kernel_rfl) rfl rfl ⟨(blk_cell BK220.out 0).trans rfl, (blk_cell BK220.out 1).trans rfl, (blk_cell BK220.out 2).trans rfl⟩ (fun hHeld => ?_)
           generalize w86.drew = w87 at HO213 HO210 HO217 HO219 BK170 BK171 BK220 HB hHeld ⊢
           refine take_ (i := 0) (N := some 142) (v := ?_) (a' := ?_) #[true, false, false, false, false] rfl rfl (by kernel_rfl) (fun _ _ _ h => h) (Or.inl ⟨by rfl, ?_⟩) hHeld ?_ ?_
           rotate_left
           ·rintro w' ⟨s0, s1, s2⟩
            go_simp
            with_reducible rfl
           rotate_left
           ·simp only [Act.put, sI, s0_, s1_, i64_w, i32_w]
            rfl
           refine take_ (i := 1) (N := some 143) (v := ?_) (a' := ?_) #[true, true, false, false, false] rfl rfl (by kernel_rfl) (fun _ _ _ h => h) (Or.inl ⟨by rfl, ?_⟩) hHeld ?_ ?_
           rotate_left
           ·rintro w' ⟨s0, s1, s2⟩
            go_simp
            with_reducible rfl
           rotate_left
           ·simp only [Act.put, sI, s0_, s1_, i64_w, i32_w]
            rfl
           refine one_ (i := 2) (N := some 144) #[true, true, true, false, false] rfl rfl (by kernel_rfl) (by decide) (fun K hK => ?_)
           refine goes_ Try.func37 (by kernel_rfl) rfl #[.agg #[.slice Ao81 t214.length co81, .slice Ao80 t215.length co80, .int .i64 a0_2]] (by rfl) rfl rfl (by (try simp only [mT, mC, mZ]); first | done | rfl) ?_
           with_reducible refine (spec_stGood.calls kj4 _ _ t214 _ _ t215 a0_2 t221 _ ?side1 ?side2 ?side3 ?side4 A75.out).mono ?_
           (case side1 => repeat (first | exact (Kd.R_reads' HO217.out).2.2 | (with_reducible first | apply cA | apply cN | apply cD)))
           (case side2 => exact (Kd.R_reads' HO217.out).2.1)
           (case side3 => repeat (first | exact (Kd.R_reads' HO219.out).2.2 | (with_reducible first | apply cA | apply cN | apply cD)))
           (case side4 => exact (Kd.R_reads' HO219.out).2.1)
           rintro e w88 ⟨rfl, hb⟩
           refine ⟨_, rfl, ?_⟩
           replace HO213 := am (Kd.R_below (by (with_reducible repeat (first | apply rA | apply rN | apply rD)); exact HO213.out) hb)
           replace HO210 := am (Kd.R_below (by (with_reducible repeat (first | apply rA | apply rN | apply rD)); exact HO210.out) hb)
           replace HO217 := am (Kd.R_below (by (with_reducible repeat (first | apply rA | apply rN | apply rD)); exact HO217.out) hb)
           replace HO219 := am (Kd.R_below (by (with_reducible repeat (first | apply rA | apply rN | apply rD)); exact HO219.out) hb)
           replace BK170 := am (blk_below (g := gb170) (by (with_reducible repeat (first | apply kB | apply kC | apply kE)); exact BK170.out) hb)
           replace BK171 := am (blk_below (g := gb171) (by (with_reducible repeat (first | apply kB | apply kC | apply kE)); exact BK171.out) hb)
           replace BK220 := am (blk_below (g := gb220) (by (with_reducible repeat (first | apply kB | apply kC | apply kE)); exact BK220.out) hb)
           replace HB := am (below_step (by repeat (with_reducible first | exact HB.out | apply bA | apply bN | apply bD | refine bS ?_ GE170.out | refine bS ?_ GE171.out | refine bS ?_ GE220.out)) hb)
           (try clear hb)
           (try clear hb2)
           (try clear hk)
           (try clear hi)
           refine hK.out _ _ ⟨(blk_cell BK220.out 0).trans rfl, (blk_cell BK220.out 1).trans rfl, (blk_cell BK220.out 2).trans rfl⟩ (fun hHeld => ?_)
           clear hK K
           refine norm_ (a' := ?_) ?_ ?_
           rotate_left
           ·show Act.put _ (some 144) _ = _
            simp only [Act.put, sI, s0_, s1_, i64_w, i32_w]
            rfl
           refine one_ (i := 3) (N := none) #[true, true, true, true, false] rfl rfl (by kernel_rfl) (by decide) (fun K hK => ?_)
           have hs89 : w88.cell? ⟨gb171, 0, none⟩ = some (.slice none 0 0) := (blk_cell BK171.out 0).trans rfl
           have hfs89 := blk_frozen BK171.out 0
           have hns89_0 := NB170_171.out
           have hns89_2 := NB220_171.out
           have hms89_0 := NB171_170.out
           have hms89_2 := NB171_220.out
           have hs90 : w88.cell? ⟨gb171, 1, none⟩ = some (.slice none 0 0) := (blk_cell BK171.out 1).trans rfl
           have hfs90 := blk_frozen BK171.out 1
           have hns90_0 := NB170_171.out
           have hns90_2 := NB220_171.out
           have hms90_0 := NB171_170.out
           have hms90_2 := NB171_220.out
           have hs91 : w88.cell? ⟨gb171, 2, none⟩ = some (.int .i64 0) := (blk_cell BK171.out 2).trans rfl
           have hfs91 := blk_frozen BK171.out 2
           have hns91_0 := NB170_171.out
           have hns91_2 := NB220_171.out
           have hms91_0 := NB171_170.out
           have hms91_2 := NB171_220.out
           refine skip_ (w1 := ?_) (by rfl) rfl ?_ ?_
           rotate_left
           ·go_simp
            rfl
           refine hK.out _ _ ⟨((cell_far (p := ⟨gb171, _, none⟩) NB220_171.out _).trans (((cell_far (p := ⟨gb171, _, none⟩) NB220_171.out _).trans (((cell_far (p := ⟨gb171, _, none⟩) NB220_171.out _).trans (hHeld.1)))))), ((cell_far (p := ⟨gb171, _, none⟩) NB220_171.out _).trans (((cell_far (p := ⟨gb171, _, none⟩) NB220_171.out _).trans (((cell_far (p := ⟨gb171, _, none⟩) NB220_171.out _).trans (hHeld.2.1)))))), ((cell_far (p := ⟨gb171, _, none⟩) NB220_171.out _).trans (((cell_far (p := ⟨gb171, _, none⟩) NB220_171.out _).trans (((cell_far (p := ⟨gb171, _, none⟩) NB220_171.out _).trans (hHeld.2.2))))))⟩ (fun hHeld => ?_)
           clear hK K
           refine pure_ (i := 4) (N := some 5) (v := ?_) (a' := ?_) #[true, true, true, true, true] rfl rfl (by kernel_rfl) (fun _ _ _ h => h) (Or.inl ⟨by rfl, ?_⟩) ?_ ?_
           rotate_left
           ·intro w'
            go_simp
            with_reducible rfl
           rotate_left
           ·simp only [Act.put, sI, s0_, s1_, i64_w, i32_w]
            rfl
           refine done_ (by kernel_rfl) ?_
           try go_wp2
           refine bodyPost_ret (results_ct rfl _ _ gb171 27 #[.slice Ao81 t214.length co81, .slice Ao80 t215.length co80, .int .i64 a0_2] (0, 0) _ rfl (by (with_reducible repeat (first | apply kB | apply kC | apply kE)); refine blk_put (cs := #[.slice Ao81 t214.length co81, .slice Ao80 t215.length co80, .int .i64 0]) ?_ 2 _ rfl; (with_reducible repeat (first | apply kB | apply kC | apply kE)); refine blk_put (cs := #[.slice Ao81 t214.length co81, .slice none 0 0, .int .i64 0]) ?_ 1 _ rfl; (with_reducible repeat (first | apply kB | apply kC | apply kE)); refine blk_put (cs := #[.slice none 0 0, .slice none 0 0, .int .i64 0]) ?_ 0 _ rfl; (with_reducible repeat (first | apply kB | apply kC | apply kE)); exact BK171.out) Try.underlying27 rfl (by kernel_rfl)) rfl ?_
           exact ⟨_, _, by first | rfl | (simp [errW_none, errW_some] <;> rfl) | (simp only [← hji69]; first | rfl | (simp [errW_none, errW_some] <;> rfl)) | (simp [*, errW_none, errW_some] <;> rfl), by (with_reducible repeat (first | apply rA | apply rN | apply rD)); exact Kd.R_mono (Kd.R_far (p := ⟨gb171, 2, none⟩) (Kd.R_far (p := ⟨gb171, 1, none⟩) (Kd.R_far (p := ⟨gb171, 0, none⟩) (Kd.R_types HO217.out BK171.out (by decide)) (fun _ hk => hk.2) (.slice Ao81 t214.length co81)) (fun _ hk => hk.2) (.slice Ao80 t215.length co80)) (fun _ hk => hk.2) (.int .i64 a0_2)) (fun _ hk => hk.1.2.2), by (with_reducible repeat (first | apply rA | apply rN | apply rD)); exact Kd.R_mono (Kd.R_far (p := ⟨gb171, 2, none⟩) (Kd.R_far (p := ⟨gb171, 1, none⟩) (Kd.R_far (p := ⟨gb171, 0, none⟩) (Kd.R_types HO219.out BK171.out (by decide)) (fun _ hk => hk.2) (.slice Ao81 t214.length co81)) (fun _ hk => hk.2) (.slice Ao80 t215.length co80)) (fun _ hk => hk.2) (.int .i64 a0_2)) (fun _ hk => hk.1.2.2), by repeat (with_reducible first | exact HB.out | apply bA | apply bN | apply bD | refine bS ?_ GE170.out | refine bS ?_ GE171.out | refine bS ?_ GE220.out)⟩
          ·rw [if_neg c73] at H
           exact absurd H (by simp)
         ·rw [if_neg c72] at H
          exact absurd H (by simp)
        ·rw [if_neg c71] at H
         exact absurd H (by simp)
       ·rw [if_neg c70] at H
        exact absurd H (by simp)
      ·rw [if_neg c68] at H
       have c68b0 : (a1 == 2) = false := beq_eq_false_iff_ne.mpr c68
       have c68b1 : (a1 != 2) = true := bne_iff_ne.mpr c68
       obtain ⟨ji92, hji92⟩ : ∃ j_ : Int, (wrap64 ((t172.length : Int) - 1)) = j_ := ⟨_, rfl⟩
       replace H : (if 0 ≤ (ji92) then (if (ji92) < (t172.length : Int) then (if 0 ≤ (wrap64 ((t175.length : Int) - 1)) then (if (wrap64 ((t175.length : Int) - 1)) < (t175.length : Int) then (if (ji92) ≤ (t172.length : Int) then ((some (t172.take ((ji92) : Int).toNat : List Int)).bind fun y224 => (if (wrap64 ((t175.length : Int) - 1)) ≤ (t175.length : Int) then ((some (t175.take ((wrap64 ((t175.length : Int) - 1)) : Int).toNat : List Int)).bind fun y227 => (if (rd t172 (ji92)) = (rd t175 (wrap64 ((t175.length : Int) - 1))) then (spec_stStep.j1 kj4 y224 y227 (wrap64 (a0_2 + 1)) (rd t172 (ji92)) (rd t175 (wrap64 ((t175.length : Int) - 1)))) else (spec_stStep.j1 kj4 y224 y227 a0_2 (rd t172 (ji92)) (rd t175 (wrap64 ((t175.length : Int) - 1)))))) else (none))) else (none)) else (none)) else (none)) else (none)) else (none)) = some (r1, r2, r3, r4) := by first | (rw [hji92] at H; exact H) | (simp only [hji92] at H ⊢; exact H)
       have hji92w : (IntKind.i64.wrap ((t172.length : Int) - 1)) = ji92 := (i64_w _).trans hji92
       by_cases c93 : 0 ≤ (ji92)
       ·rw [if_pos c93] at H
        have c93b0 : decide (0 ≤ (ji92)) = true := decide_eq_true c93
        clear c93
        by_cases c94 : (ji92) < (t172.length : Int)
        ·rw [if_pos c94] at H
         have c94b0 : decide ((ji92) < (t172.length : Int)) = true := decide_eq_true c94
         clear c94
         obtain ⟨ji95, hji95⟩ : ∃ j_ : Int, (wrap64 ((t175.length : Int) - 1)) = j_ := ⟨_, rfl⟩
         replace H : (if 0 ≤ (ji95) then (if (ji95) < (t175.length : Int) then (if (ji92) ≤ (t172.length : Int) then ((some (t172.take ((ji92) : Int).toNat : List Int)).bind fun y224 => (if (ji95) ≤ (t175.length : Int) then ((some (t175.take ((ji95) : Int).toNat : List Int)).bind fun y227 => (if (rd t172 (ji92)) = (rd t175 (ji95)) then (spec_stStep.j1 kj4 y224 y227 (wrap64 (a0_2 + 1)) (rd t172 (ji92)) (rd t175 (ji95))) else (spec_stStep.j1 kj4 y224 y227 a0_2 (rd t172 (ji92)) (rd t175 (ji95))))) else (none))) else (none)) else (none)) else (none)) = some (r1, r2, r3, r4) := by first | (rw [hji95] at H; exact H) | (simp only [hji95] at H ⊢; exact H)
         have hji95w : (IntKind.i64.wrap ((t175.length : Int) - 1)) = ji95 := (i64_w _).trans hji95
         by_cases c96 : 0 ≤ (ji95)
         ·rw [if_pos c96] at H
          have c96b0 : decide (0 ≤ (ji95)) = true := decide_eq_true c96
          clear c96
          by_cases c97 : (ji95) < (t175.length : Int)
          ·rw [if_pos c97] at H
           have c97b0 : decide ((ji95) < (t175.length : Int)) = true := decide_eq_true c97
           clear c97
           by_cases c98 : (ji92) ≤ (t172.length : Int)
           ·rw [if_pos c98] at H
            have c98b0 := eq_true c98
            have c98b1 : decide ((ji92) ≤ (t172.length : Int)) = true := decide_eq_true c98
            clear c98
            obtain ⟨y224, hy224⟩ : ∃ y_ : List Int, y_ = (t172.take ((ji92) : Int).toNat) := ⟨_, rfl⟩
            replace H : (if (ji95) ≤ (t175.length : Int) then ((some (t175.take ((ji95) : Int).toNat : List Int)).bind fun y227 => (if (rd t172 (ji92)) = (rd t175 (ji95)) then (spec_stStep.j1 kj4 y224 y227 (wrap64 (a0_2 + 1)) (rd t172 (ji92)) (rd t175 (ji95))) else (spec_stStep.j1 kj4 y224 y227 a0_2 (rd t172 (ji92)) (rd t175 (ji95))))) else (none)) = some (r1, r2, r3, r4) := by first | (rw [hy224]; with_reducible exact H) | (have H2_ := (Option.bind_some _ _).symm.trans H; rw [hy224]; with_reducible exact H2_) | (have H2_ := (Option.bind_some _ _).symm.trans H; with_reducible exact H2_) | with_reducible exact H | (rw [hy224]; exact H) | exact H
            have Ny224 := am hy224
            clear hy224
            by_cases c99 : (ji95) ≤ (t175.length : Int)
            ·rw [if_pos c99] at H
             have c99b0 := eq_true c99
             have c99b1 : decide ((ji95) ≤ (t175.length : Int)) = true := decide_eq_true c99
             clear c99
             obtain ⟨y227, hy227⟩ : ∃ y_ : List Int, y_ = (t175.take ((ji95) : Int).toNat) := ⟨_, rfl⟩
             replace H : (if (rd t172 (ji92)) = (rd t175 (ji95)) then (spec_stStep.j1 kj4 y224 y227 (wrap64 (a0_2 + 1)) (rd t172 (ji92)) (rd t175 (ji95))) else (spec_stStep.j1 kj4 y224 y227 a0_2 (rd t172 (ji92)) (rd t175 (ji95)))) = some (r1, r2, r3, r4) := by first | (rw [hy227]; with_reducible exact H) | (have H2_ := (Option.bind_some _ _).symm.trans H; rw [hy227]; with_reducible exact H2_) | (have H2_ := (Option.bind_some _ _).symm.trans H; with_reducible exact H2_) | with_reducible exact H | (rw [hy227]; exact H) | exact H
             have Ny227 := am hy227
             clear hy227
             have HC100 := am H
             clear H
             try go_wp2
             replace HO_6 := am (Kd.R_drew HO_6.out)
             replace HO_7 := am (Kd.R_drew HO_7.out)
             replace BK170 := am (kC BK170.out)
             replace BK171 := am (kC BK171.out)
             replace HB := am (below_drew1 HB.out)
             have p222 : 0 ≤ ((ji92) : Int) := ofd (by assumption)
             have q222 : (ji92) < (t172.length : Int) := ofd (by assumption)
             obtain ⟨ad222, e222, hx222_0⟩ := Kd.at_int (Kd.R_reads' HO_6.out).2.2 (ji92) p222 q222
             cases e222
             replace p222 := eq_true p222
             replace q222 := eq_true q222
             have p223 : 0 ≤ ((ji95) : Int) := ofd (by assumption)
             have q223 : (ji95) < (t175.length : Int) := ofd (by assumption)
             obtain ⟨ad223, e223, hx223_0⟩ := Kd.at_int (Kd.R_reads' HO_7.out).2.2 (ji95) p223 q223
             cases e223
             replace p223 := eq_true p223
             replace q223 := eq_true q223
             refine start_ (n := 10) (S := fun w' => w'.cell? (ad222.add ((ji92)).toNat) = some (.int .i64 (rd t172 (ji92))) ∧ w'.cell? (ad223.add ((ji95)).toNat) = some (.int .i64 (rd t175 (ji95)))) (ds := []) #[false, false, false, false, false, false, false, false, false, false] (by kernel_rfl) rfl rfl ⟨hx222_0, hx223_0⟩ (fun hHeld => ?_); refine with_tabW spec_stStep.tab7 spec_stStep.bits7 (fun HT_ HW_ => ?_)
             generalize wc.drew = w101 at HO_6 HO_7 BK170 BK171 HB hx222_0 hx223_0 hHeld ⊢
             refine pure_ (i := 0) (N := some 49) (v := ?_) (a' := ?_) #[true, false, false, false, false, false, false, false, false, false] rfl rfl (any_of HT_.out (by kernel_rfl)) (fun _ _ _ h => h) (Or.inl ⟨by rfl, ?_⟩) ?_ ?_
             rotate_left
             ·intro w'
              go_simp
              with_reducible rfl
             rotate_left
             ·simp only [Act.put, sI, s0_, s1_, i64_w, i32_w]
              rfl
             refine pure_ (i := 1) (N := some 50) (v := ?_) (a' := ?_) #[true, true, false, false, false, false, false, false, false, false] rfl rfl (any_of HT_.out (by kernel_rfl)) (fun _ _ _ h => h) (Or.inl ⟨by rfl, ?_⟩) ?_ ?_
             rotate_left
             ·intro w'
              go_simp
              with_reducible rfl
             rotate_left
             ·simp only [Act.put, sI, s0_, s1_, i64_w, i32_w]
              rfl
             refine pure_ (i := 2) (N := some 51) (v := ?_) (a' := ?_) #[true, true, true, false, false, false, false, false, false, false] rfl rfl (any_of HT_.out (by kernel_rfl)) (fun _ _ _ h => h) (Or.inl ⟨by rfl, ?_⟩) ?_ ?_
             rotate_left
             ·intro w'
              go_simp
              with_reducible rfl
             rotate_left
             ·simp only [Act.put, sI, s0_, s1_, i64_w, i32_w]
              rfl
             refine pure_ (i := 4) (N := some 53) (v := ?_) (a' := ?_) #[true, true, true, false, true, false, false, false, false, false] rfl rfl (any_of HT_.out (by kernel_rfl)) (fun _ _ _ h => h) (Or.inl ⟨by rfl, ?_⟩) ?_ ?_
             rotate_left
             ·intro w'
              go_simp
              with_reducible rfl
             rotate_left
             ·simp only [Act.put, sI, s0_, s1_, i64_w, i32_w]
              rfl
             refine pure_ (i := 5) (N := some 54) (v := ?_) (a' := ?_) #[true, true, true, false, true, true, false, false, false, false] rfl rfl (any_of HT_.out (by kernel_rfl)) (fun _ _ _ h => h) (Or.inl ⟨by rfl, ?_⟩) ?_ ?_
             rotate_left
             ·intro w'
              go_simp
              with_reducible rfl
             rotate_left
             ·simp only [Act.put, sI, s0_, s1_, i64_w, i32_w]
              rfl
             refine pure_ (i := 6) (N := some 55) (v := ?_) (a' := ?_) #[true, true, true, false, true, true, true, false, false, false] rfl rfl (any_of HT_.out (by kernel_rfl)) (fun _ _ _ h => h) (Or.inl ⟨by rfl, ?_⟩) ?_ ?_
             rotate_left
             ·intro w'
              go_simp
              with_reducible rfl
             rotate_left
             ·simp only [Act.put, sI, s0_, s1_, i64_w, i32_w]
              rfl
             refine take_ (i := 3) (N := some 52) (v := ?_) (a' := ?_) #[true, true, true, true, true, true, true, false, false, false] rfl rfl (take_ofW HT_.out HW_.out (by kernel_rfl)) (fun _ _ _ h => h) (Or.inl ⟨by rfl, ?_⟩) hHeld ?_ ?_
             rotate_left
             ·rintro w' ⟨s0, s1⟩
              go_simp
              with_reducible rfl
             rotate_left
             ·simp only [Act.put, sI, s0_, s1_, i64_w, i32_w]
              rfl
             refine pure_ (i := 8) (N := some 11) (v := ?_) (a' := ?_) #[true, true, true, true, true, true, true, false, true, false] rfl rfl (any_of HT_.out (by kernel_rfl)) (fun _ _ _ h => h) (Or.inl ⟨by rfl, ?_⟩) ?_ ?_
             rotate_left
             ·intro w'
              go_simp
              with_reducible rfl
             rotate_left
             ·simp only [Act.put, sI, s0_, s1_, i64_w, i32_w]
              rfl
             refine take_ (i := 7) (N := some 56) (v := ?_) (a' := ?_) #[true, true, true, true, true, true, true, true, true, false] rfl rfl (take_ofW HT_.out HW_.out (by kernel_rfl)) (fun _ _ _ h => h) (Or.inl ⟨by rfl, ?_⟩) hHeld ?_ ?_
             rotate_left
             ·rintro w' ⟨s0, s1⟩
              go_simp
              with_reducible rfl
             rotate_left
             ·simp only [Act.put, sI, s0_, s1_, i64_w, i32_w]
              rfl
             refine pure_ (i := 9) (N := some 12) (v := ?_) (a' := ?_) #[true, true, true, true, true, true, true, true, true, true] rfl rfl (any_of HT_.out (by kernel_rfl)) (fun _ _ _ h => h) (Or.inl ⟨by rfl, ?_⟩) ?_ ?_
             rotate_left
             ·intro w'
              go_simp
              with_reducible rfl
             rotate_left
             ·simp only [Act.put, sI, s0_, s1_, i64_w, i32_w]
              rfl
             refine done_ (done_of HT_.out (by kernel_rfl)) ?_
             have q102 : ((ji92) : Int) ≤ ((t172.length : Int) : Int) := ofd (by assumption)
             obtain ⟨i0102, hi0102, _, hsz102, _⟩ := info_parts info3
             have hcut102 := cut_to (P := Try.prog) 22 3 .i64 Try.underlying22 hi0102 (some ad222) t172.length co13 (ji92) (ofd (by assumption)) q102 (Kd.R_reads' HO_6.out).2.1
             have hr102 := Kd.R_take (m := ((ji92) : Int).toNat) HO_6.out (by omega)
             have hy102 : y224.length = ((ji92) : Int).toNat := (by rw [Ny224.out, List.length_take]; omega)
             rw [← Ny224.out] at hr102
             rw [← hy102] at hr102 hcut102
             clear hy102 hi0102 hsz102 HO_6
             have HO226 := am hr102
             clear hr102
             replace q102 := eq_true q102
             have q103 : ((ji95) : Int) ≤ ((t175.length : Int) : Int) := ofd (by assumption)
             obtain ⟨i0103, hi0103, _, hsz103, _⟩ := info_parts info3
             have hcut103 := cut_to (P := Try.prog) 22 3 .i64 Try.underlying22 hi0103 (some ad223) t175.length co14 (ji95) (ofd (by assumption)) q103 (Kd.R_reads' HO_7.out).2.1
             have hr103 := Kd.R_take (m := ((ji95) : Int).toNat) HO_7.out (by omega)
             have hy103 : y227.length = ((ji95) : Int).toNat := (by rw [Ny227.out, List.length_take]; omega)
             rw [← Ny227.out] at hr103
             rw [← hy103] at hr103 hcut103
             clear hy103 hi0103 hsz103 HO_7
             have HO229 := am hr103
             clear hr103
             replace q103 := eq_true q103
             go_upto_if 65 with (fail)
             go_cut [8] (fun v8 wc => ∃ (kq : Nat) (x8_99 : Int), v8 = .int .i64 x8_99 ∧ Aside0 (spec_stStep.j1 kq y224 y227 x8_99 (rd t172 (ji92)) (rd t175 (ji95)) = some (r1, r2, r3, r4)) ∧ Aside0 (kq ≤ kj4) ∧ Aside0 (Kd.R (Kd.int .i64) 3 wc w.heap.size (fun k_ => some k_ ≠ ((.slice (some ad223) y227.length co14) : Value).ownBlock) (.slice (some ad222) y224.length co13) y224) ∧ Aside0 (Kd.R (Kd.int .i64) 3 wc w.heap.size (fun k_ => some k_ ≠ ((.slice (some ad222) y224.length co13) : Value).ownBlock) (.slice (some ad223) y227.length co14) y227) ∧ Aside0 (wc.heap[gb170]? = some (.cells #[(.slice A0_0 l0_0.length c0_0), (.slice A0_1 l0_1.length c0_1), .int .i64 a0_2] 27 (0, 0))) ∧ Aside0 (wc.heap[gb171]? = some (.cells #[(.slice none 0 0), (.slice none 0 0), .int .i64 0] 27 (0, 0))) ∧ Aside0 (Below w.heap.size w wc))
             case first =>
              have H := HC100.out
              clear HC100
              by_cases c104 : (rd t172 (ji92)) = (rd t175 (ji95))
              ·rw [if_pos c104] at H
               have c104b0 : ((rd t172 (ji92)) == (rd t175 (ji95))) = true := beq_iff_eq.mpr c104
               have c104b1 : ((rd t172 (ji92)) != (rd t175 (ji95))) = false := bne_eq_false_iff_eq.mpr c104
               clear c104
               (first | rw [c104b0] | (simp only [i64_w, i32_w]; rw [c104b0]) | skip)
               have H' := am H
               clear H
               go_wp2
               go_meet
               case rel => exact ⟨_, (wrap64 (a0_2 + 1)), (by first | rfl | (simp; done) | (simp [*]; done)), H', ⟨by have := HJ4.out; first | omega | exact Nat.le_refl _⟩, ⟨by (with_reducible repeat (first | apply rA | apply rN | apply rD)); exact HO226.out⟩, ⟨by (with_reducible repeat (first | apply rA | apply rN | apply rD)); exact HO229.out⟩, ⟨by (with_reducible repeat (first | apply kB | apply kC | apply kE)); exact BK170.out⟩, ⟨by (with_reducible repeat (first | apply kB | apply kC | apply kE)); exact BK171.out⟩, ⟨by repeat (with_reducible first | exact HB.out | apply bA | apply bN | apply bD | refine bS ?_ GE170.out | refine bS ?_ GE171.out)⟩⟩
              ·rw [if_neg c104] at H
               have c104b0 : ((rd t172 (ji92)) == (rd t175 (ji95))) = false := beq_eq_false_iff_ne.mpr c104
               have c104b1 : ((rd t172 (ji92)) != (rd t175 (ji95))) = true := bne_iff_ne.mpr c104
               (first | rw [c104b0] | (simp only [i64_w, i32_w]; rw [c104b0]) | skip)
               have H' := am H
               clear H
               go_wp2
               go_meet
               case rel => exact ⟨_, (a0_2), (by first | rfl | (simp; done) | (simp [*]; done)), H', ⟨by have := HJ4.out; first | omega | exact Nat.le_refl _⟩, ⟨by (with_reducible repeat (first | apply rA | apply rN | apply rD)); exact HO226.out⟩, ⟨by (with_reducible repeat (first | apply rA | apply rN | apply rD)); exact HO229.out⟩, ⟨by (with_reducible repeat (first | apply kB | apply kC | apply kE)); exact BK170.out⟩, ⟨by (with_reducible repeat (first | apply kB | apply kC | apply kE)); exact BK171.out⟩, ⟨by repeat (with_reducible first | exact HB.out | apply bA | apply bN | apply bD | refine bS ?_ GE170.out | refine bS ?_ GE171.out)⟩⟩
             case rest =>
              clear HC100
              try clear p1
              try clear q1
              try clear hx1
              try clear p2
              try clear q2
              try clear hx2
              try clear q5
              try clear p6
              try clear q7
              try clear q10
              try clear p19
              try clear q19
              try clear hx19
              try clear p20
              try clear q20
              try clear hx20
              try clear p22
              try clear q22
              try clear hx22
              try clear q53
              try clear p64
              try clear q77
              try clear q102
              try clear q103
              try clear hcz61_0
              try clear hcz61_1
              try clear hcz61_2
              try clear hcz85_0
              try clear hcz85_1
              try clear hcz85_2
              try clear hfz61_0
              try clear hfz61_1
              try clear hfz61_2
              try clear hfz85_0
              try clear hfz85_1
              try clear hfz85_2
              try clear hx192_0
              try clear hx207_0
              try clear hx222_0
              try clear hx223_0
              try clear p192
              try clear p207
              try clear p222
              try clear p223
              try clear q102
              try clear q103
              try clear q192
              try clear q207
              try clear q222
              try clear q223
              try clear q53
              try clear q77
              obtain ⟨kq, x8_99, rfl, HA, HJ99, HO_6, HO_7, BK170, BK171, HB⟩ := hcut
              cases kq with
              | zero => exact absurd HA.out (by simp [spec_stStep.j1])
              | succ kj99 =>
               have H := HA.out
               clear HA
               simp only [spec_stStep.j1] at H
               have H' := am H
               clear H
               go_wp2
               (try simp only [hji45])
               (try simp only [hji69])
               (try simp only [hji92])
               (try simp only [hji95])
               go_loopg [70] kj99 (fun kq v70 w' => ∃ (x6_3 : List Int) (x70_3 : Int), v70 = .int .i64 x70_3 ∧ Aside0 (spec_stStep.l0 kq x6_3 y227 x8_99 (rd t172 (ji92)) (rd t175 (ji95)) (y224.length : Int) x70_3 = some (r1, r2, r3, r4)) ∧ Aside0 (kq ≤ kj99) ∧ Aside0 (Kd.R (Kd.int .i64) 3 w' w.heap.size (fun k_ => some k_ ≠ ((.slice (some ad223) y227.length co14) : Value).ownBlock) (.slice (some ad222) y224.length co13) x6_3) ∧ Aside0 (Kd.R (Kd.int .i64) 3 w' w.heap.size (fun k_ => some k_ ≠ ((.slice (some ad222) y224.length co13) : Value).ownBlock) (.slice (some ad223) y227.length co14) y227) ∧ Aside0 (w'.heap[gb170]? = some (.cells #[(.slice A0_0 l0_0.length c0_0), (.slice A0_1 l0_1.length c0_1), .int .i64 a0_2] 27 (0, 0))) ∧ Aside0 (w'.heap[gb171]? = some (.cells #[(.slice none 0 0), (.slice none 0 0), .int .i64 0] 27 (0, 0))) ∧ Aside0 (Below w.heap.size w w'))
               case atStart => exact ⟨(y224), (0), (by first | rfl | (simp; done) | (simp [*]; done)), H', ⟨Nat.le_refl _⟩, ⟨by (with_reducible repeat (first | apply rA | apply rN | apply rD)); exact HO_6.out⟩, ⟨by (with_reducible repeat (first | apply rA | apply rN | apply rD)); exact HO_7.out⟩, ⟨by (with_reducible repeat (first | apply kB | apply kC | apply kE)); exact BK170.out⟩, ⟨by (with_reducible repeat (first | apply kB | apply kC | apply kE)); exact BK171.out⟩, ⟨by repeat (with_reducible first | exact HB.out | apply bA | apply bN | apply bD | refine bS ?_ GE170.out | refine bS ?_ GE171.out)⟩⟩
               case round =>
                clear H'
                try clear p1
                try clear q1
                try clear hx1
                try clear p2
                try clear q2
                try clear hx2
                try clear q5
                try clear p6
                try clear q7
                try clear q10
                try clear p19
                try clear q19
                try clear hx19
                try clear p20
                try clear q20
                try clear hx20
                try clear p22
                try clear q22
                try clear hx22
                try clear q53
                try clear p64
                try clear q77
                try clear q102
                try clear q103
                try clear hcz61_0
                try clear hcz61_1
                try clear hcz61_2
                try clear hcz85_0
                try clear hcz85_1
                try clear hcz85_2
                try clear hfz61_0
                try clear hfz61_1
                try clear hfz61_2
                try clear hfz85_0
                try clear hfz85_1
                try clear hfz85_2
                try clear hx192_0
                try clear hx207_0
                try clear hx222_0
                try clear hx223_0
                try clear p1
                try clear p19
                try clear p192
                try clear p2
                try clear p20
                try clear p207
                try clear p22
                try clear p222
                try clear p223
                try clear p6
                try clear p64
                try clear q1
                try clear q10
                try clear q102
                try clear q103
                try clear q19
                try clear q192
                try clear q2
                try clear q20
                try clear q207
                try clear q22
                try clear q222
                try clear q223
                try clear q5
                try clear q53
                try clear q7
                try clear q77
                obtain ⟨x6_3, x70_3, rfl, HA, HK3, HO_6, HO_7, BK170, BK171, HB⟩ := hrel
                have hl6_3 := (Kd.R_reads' HO_6.out).1
                rw [hl6_3] at HO_6
                (try simp only [hl6_3])
                (try simp only [hl6_3] at BK170)
                (try simp only [hl6_3] at BK171)
                (try simp only [hl6_3] at HO_7)
                cases gk with
                | zero => exact absurd HA.out (by simp [spec_stStep.l0])
                | succ k3 =>
                 have H := HA.out
                 clear HA
                 simp only [spec_stStep.l0] at H
                 by_cases c105 : x70_3 < (y224.length : Int)
                 ·rw [if_pos c105] at H
                  have c105b0 : decide (x70_3 < (y224.length : Int)) = true := decide_eq_true c105
                  clear c105
                  by_cases c106 : 0 ≤ x70_3
                  ·rw [if_pos c106] at H
                   have c106b0 : decide (0 ≤ x70_3) = true := decide_eq_true c106
                   clear c106
                   by_cases c107 : x70_3 < (x6_3.length : Int)
                   ·rw [if_pos c107] at H
                    have c107b0 : decide (x70_3 < (x6_3.length : Int)) = true := decide_eq_true c107
                    clear c107
                    by_cases c108 : (rd x6_3 x70_3) = (rd t175 (ji95))
                    ·rw [if_pos c108] at H
                     have c108b0 : ((rd x6_3 x70_3) == (rd t175 (ji95))) = true := beq_iff_eq.mpr c108
                     have c108b1 : ((rd x6_3 x70_3) != (rd t175 (ji95))) = false := bne_eq_false_iff_eq.mpr c108
                     clear c108
                     obtain ⟨y231, hy231⟩ : ∃ y_ : List Int, y_ = (x6_3.set (x70_3 : Int).toNat (rd t172 (ji92))) := ⟨_, rfl⟩
                     replace H : (spec_stStep.l0 k3 y231 y227 x8_99 (rd t172 (ji92)) (rd t175 (ji95)) (y224.length : Int) (wrap64 (x70_3 + 1))) = some (r1, r2, r3, r4) := by first | (rw [hy231]; with_reducible exact H) | (have H2_ := (Option.bind_some _ _).symm.trans H; rw [hy231]; with_reducible exact H2_) | (have H2_ := (Option.bind_some _ _).symm.trans H; with_reducible exact H2_) | with_reducible exact H | (rw [hy231]; exact H) | exact H
                     have Ny231 := am hy231
                     clear hy231
                     have H' := am H
                     clear H
                     have p230 : 0 ≤ (x70_3 : Int) := ofd (by assumption)
                     have q230 : x70_3 < (x6_3.length : Int) := ofd (by assumption)
                     obtain ⟨ad230, e230, hx230_0⟩ := Kd.at_int (Kd.R_reads' HO_6.out).2.2 x70_3 p230 q230
                     obtain rfl : ad222 = ad230 := (by injection e230)
                     replace p230 := eq_true p230
                     replace q230 := eq_true q230
                     have p109 : 0 ≤ (x70_3 : Int) := ofd (by assumption)
                     have q109 : (x70_3 : Int) < ((x6_3.length : Int) : Int) := ofd (by assumption)
                     obtain ⟨go109, co109, eo109, gb109, gl109, cl109, HG109⟩ := Kd.R_form HO_6.out (by omega)
                     (first | cases eo109 | (injection eo109 with ea_ en_ ec_; (first | subst ea_ | (injection ea_ with ea_; subst ea_)); subst ec_; clear en_))
                     have GB109 := am gb109
                     have GG109 := am HG109
                     clear gb109 gl109 HG109
                     (first | simp only [add_plain] at hx222_0 | skip)
                     (first | simp only [add_plain] at hx230_0 | skip)
                     obtain ⟨hx109_0, hf109_0⟩ := Kd.R_celln 0 HO_6.out (x70_3 : Int) p109 q109
                     replace p109 := eq_true p109
                     replace q109 := eq_true q109
                     have HP110 := Kd.R_putg HO_6.out (x70_3 : Int) (rd t172 (ji92))
                     go_wp2_with (first | ((with_reducible refine gate_store (t := 3) (p := 82) rfl ?_); refine store_event (t := 3) (p := 82) (v := ?vo_w111) (w1 := (wr.setCell ⟨go109, (x70_3 : Int).toNat, none⟩ (.int .i64 (rd t172 (ji92))))) ?hg ?ho ?hn ?hr ?_; (case ho => rfl); (case hg => rfl); (case hn => rfl); (case hr => first | (go_simp; done) | (go_simp; rfl)); intro w111 hw; have hg : wr.grownBy w111 (some go109) := (by rw [hw]; exact HP110.2); have hp_ : Kd.R (Kd.int .i64) 3 w111 w.heap.size (fun k_ => some k_ ≠ (.slice (some ad223) y227.length co14 : Value).ownBlock) (.slice (some ⟨go109, 0, none⟩) x6_3.length co13) y231 := (by rw [hw, Ny231.out]; exact HP110.1); clear HP110; replace HO_7 := am (Kd.R_after (v := (.slice (some ⟨go109, 0, none⟩) x6_3.length co13)) (v1 := (.slice (some ⟨go109, 0, none⟩) x6_3.length co13)) (ok := (fun _ => True)) (by (with_reducible repeat (first | apply rA | apply rN | apply rD)); exact Kd.R_mono HO_7.out (fun _ hk => ⟨trivial, hk⟩)) hg (.inl rfl)); replace BK170 := am (blk_grown (g := gb170) (by (with_reducible repeat (first | apply kB | apply kC | apply kE)); exact BK170.out) hg (Kd.R_ne HO_6.out BK170.out (by decide))); replace BK171 := am (blk_grown (g := gb171) (by (with_reducible repeat (first | apply kB | apply kC | apply kE)); exact BK171.out) hg (Kd.R_ne HO_6.out BK171.out (by decide))); replace HO_6 := am (hp_); replace HB := am ((by rw [hw]; exact bS (HB.out) GB109.out : Below w.heap.size w w111)); clear hg hw hp_))
                     (try simp only [← hl6_3])
                     go_roundg k3
                     case measure => have := HJ4.out; have := HJ99.out; have := HK3.out; omega
                     case rel => exact ⟨(y231), (wrap64 (x70_3 + 1)), (by first | rfl | (simp; done) | (simp [*]; done)), H', ⟨by have := HJ4.out; have := HJ99.out; have := HK3.out; omega⟩, ⟨by (try simp only [hl6_3]); (with_reducible repeat (first | apply rA | apply rN | apply rD)); exact HO_6.out⟩, ⟨by (try simp only [hl6_3]); (with_reducible repeat (first | apply rA | apply rN | apply rD)); exact Kd.R_mono HO_7.out (fun _ hk => hk.2)⟩, ⟨by (try simp only [hl6_3]); (with_reducible repeat (first | apply kB | apply kC | apply kE)); exact BK170.out⟩, ⟨by (try simp only [hl6_3]); (with_reducible repeat (first | apply kB | apply kC | apply kE)); exact BK171.out⟩, ⟨by repeat (with_reducible first | exact HB.out | apply bA | apply bN | apply bD | refine bS ?_ GE170.out | refine bS ?_ GE171.out)⟩⟩
                    ·rw [if_neg c108] at H
                     have c108b0 : ((rd x6_3 x70_3) == (rd t175 (ji95))) = false := beq_eq_false_iff_ne.mpr c108
                     have c108b1 : ((rd x6_3 x70_3) != (rd t175 (ji95))) = true := bne_iff_ne.mpr c108
                     have H' := am H
                     clear H
                     have p230 : 0 ≤ (x70_3 : Int) := ofd (by assumption)
                     have q230 : x70_3 < (x6_3.length : Int) := ofd (by assumption)
                     obtain ⟨ad230, e230, hx230_0⟩ := Kd.at_int (Kd.R_reads' HO_6.out).2.2 x70_3 p230 q230
                     obtain rfl : ad222 = ad230 := (by injection e230)
                     replace p230 := eq_true p230
                     replace q230 := eq_true q230
                     go_wp2
                     (try simp only [← hl6_3])
                     go_roundg k3
                     case measure => have := HJ4.out; have := HJ99.out; have := HK3.out; omega
                     case rel => exact ⟨(x6_3), (wrap64 (x70_3 + 1)), (by first | rfl | (simp; done) | (simp [*]; done)), H', ⟨by have := HJ4.out; have := HJ99.out; have := HK3.out; omega⟩, ⟨by (try simp only [hl6_3]); (with_reducible repeat (first | apply rA | apply rN | apply rD)); exact HO_6.out⟩, ⟨by (try simp only [hl6_3]); (with_reducible repeat (first | apply rA | apply rN | apply rD)); exact HO_7.out⟩, ⟨by (try simp only [hl6_3]); (with_reducible repeat (first | apply kB | apply kC | apply kE)); exact BK170.out⟩, ⟨by (try simp only [hl6_3]); (with_reducible repeat (first | apply kB | apply kC | apply kE)); exact BK171.out⟩, ⟨by repeat (with_reducible first | exact HB.out | apply bA | apply bN | apply bD | refine bS ?_ GE170.out | refine bS ?_ GE171.out)⟩⟩
                   ·rw [if_neg c107] at H
                    exact absurd H (by simp)
                  ·rw [if_neg c106] at H
                   exact absurd H (by simp)
                 ·rw [if_neg c105] at H
                  have c105b0 : decide (x70_3 < (y224.length : Int)) = false := decide_eq_false c105
                  (first | have c105c0 : decide (x70_3 < (x6_3.length : Int)) = false := (by rw [← hl6_3]; exact c105b0) | skip)
                  clear c105
                  have H' := am H
                  clear H
                  go_wp2
                  go_loopg [86] k3 (fun kq v86 w' => ∃ (x7_4 : List Int) (x86_4 : Int), v86 = .int .i64 x86_4 ∧ Aside0 (spec_stStep.l1 kq x6_3 x7_4 x8_99 (rd t172 (ji92)) (rd t175 (ji95)) (y227.length : Int) x86_4 = some (r1, r2, r3, r4)) ∧ Aside0 (kq ≤ k3) ∧ Aside0 (Kd.R (Kd.int .i64) 3 w' w.heap.size (fun k_ => some k_ ≠ ((.slice (some ad223) y227.length co14) : Value).ownBlock) (.slice (some ad222) x6_3.length co13) x6_3) ∧ Aside0 (Kd.R (Kd.int .i64) 3 w' w.heap.size (fun k_ => some k_ ≠ ((.slice (some ad222) x6_3.length co13) : Value).ownBlock) (.slice (some ad223) y227.length co14) x7_4) ∧ Aside0 (w'.heap[gb170]? = some (.cells #[(.slice A0_0 l0_0.length c0_0), (.slice A0_1 l0_1.length c0_1), .int .i64 a0_2] 27 (0, 0))) ∧ Aside0 (w'.heap[gb171]? = some (.cells #[(.slice none 0 0), (.slice none 0 0), .int .i64 0] 27 (0, 0))) ∧ Aside0 (Below w.heap.size w w'))
                  case atStart => exact ⟨(y227), (0), (by first | rfl | (simp; done) | (simp [*]; done)), H', ⟨Nat.le_refl _⟩, ⟨by (try simp only [hl6_3]); (with_reducible repeat (first | apply rA | apply rN | apply rD)); exact HO_6.out⟩, ⟨by (try simp only [hl6_3]); (with_reducible repeat (first | apply rA | apply rN | apply rD)); exact HO_7.out⟩, ⟨by (try simp only [hl6_3]); (with_reducible repeat (first | apply kB | apply kC | apply kE)); exact BK170.out⟩, ⟨by (try simp only [hl6_3]); (with_reducible repeat (first | apply kB | apply kC | apply kE)); exact BK171.out⟩, ⟨by repeat (with_reducible first | exact HB.out | apply bA | apply bN | apply bD | refine bS ?_ GE170.out | refine bS ?_ GE171.out)⟩⟩
                  case round =>
                   clear H'
                   try clear p1
                   try clear q1
                   try clear hx1
                   try clear p2
                   try clear q2
                   try clear hx2
                   try clear q5
                   try clear p6
                   try clear q7
                   try clear p10
                   try clear q10
                   try clear hx10
                   try clear hf10
                   try clear p19
                   try clear q19
                   try clear hx19
                   try clear p20
                   try clear q20
                   try clear hx20
                   try clear p22
                   try clear q22
                   try clear hx22
                   try clear p23
                   try clear q23
                   try clear hx23
                   try clear q53
                   try clear p64
                   try clear q77
                   try clear q102
                   try clear q103
                   try clear p109
                   try clear q109
                   try clear hx109
                   try clear hf109
                   try clear hcz61_0
                   try clear hcz61_1
                   try clear hcz61_2
                   try clear hcz85_0
                   try clear hcz85_1
                   try clear hcz85_2
                   try clear hfz61_0
                   try clear hfz61_1
                   try clear hfz61_2
                   try clear hfz85_0
                   try clear hfz85_1
                   try clear hfz85_2
                   try clear hx109_0
                   try clear hx192_0
                   try clear hx207_0
                   try clear hx222_0
                   try clear hx223_0
                   try clear hx230_0
                   try clear p1
                   try clear p109
                   try clear p19
                   try clear p192
                   try clear p2
                   try clear p20
                   try clear p207
                   try clear p22
                   try clear p222
                   try clear p223
                   try clear p230
                   try clear p6
                   try clear p64
                   try clear q1
                   try clear q10
                   try clear q102
                   try clear q103
                   try clear q109
                   try clear q19
                   try clear q192
                   try clear q2
                   try clear q20
                   try clear q207
                   try clear q22
                   try clear q222
                   try clear q223
                   try clear q230
                   try clear q5
                   try clear q53
                   try clear q7
                   try clear q77
                   obtain ⟨x7_4, x86_4, rfl, HA, HK4, HO_6, HO_7, BK170, BK171, HB⟩ := hrel
                   have hl7_4 := (Kd.R_reads' HO_7.out).1
                   rw [hl7_4] at HO_7
                   (try simp only [hl7_4])
                   (try simp only [hl7_4] at BK170)
                   (try simp only [hl7_4] at BK171)
                   (try simp only [hl7_4] at HO_6)
                   cases gk with
                   | zero => exact absurd HA.out (by simp [spec_stStep.l1])
                   | succ k4 =>
                    have H := HA.out
                    clear HA
                    simp only [spec_stStep.l1] at H
                    by_cases c112 : x86_4 < (y227.length : Int)
                    ·rw [if_pos c112] at H
                     have c112b0 : decide (x86_4 < (y227.length : Int)) = true := decide_eq_true c112
                     clear c112
                     by_cases c113 : 0 ≤ x86_4
                     ·rw [if_pos c113] at H
                      have c113b0 : decide (0 ≤ x86_4) = true := decide_eq_true c113
                      clear c113
                      by_cases c114 : x86_4 < (x7_4.length : Int)
                      ·rw [if_pos c114] at H
                       have c114b0 : decide (x86_4 < (x7_4.length : Int)) = true := decide_eq_true c114
                       clear c114
                       by_cases c115 : (rd x7_4 x86_4) = (rd t175 (ji95))
                       ·rw [if_pos c115] at H
                        have c115b0 : ((rd x7_4 x86_4) == (rd t175 (ji95))) = true := beq_iff_eq.mpr c115
                        have c115b1 : ((rd x7_4 x86_4) != (rd t175 (ji95))) = false := bne_eq_false_iff_eq.mpr c115
                        clear c115
                        obtain ⟨y233, hy233⟩ : ∃ y_ : List Int, y_ = (x7_4.set (x86_4 : Int).toNat (rd t172 (ji92))) := ⟨_, rfl⟩
                        replace H : (spec_stStep.l1 k4 x6_3 y233 x8_99 (rd t172 (ji92)) (rd t175 (ji95)) (y227.length : Int) (wrap64 (x86_4 + 1))) = some (r1, r2, r3, r4) := by first | (rw [hy233]; with_reducible exact H) | (have H2_ := (Option.bind_some _ _).symm.trans H; rw [hy233]; with_reducible exact H2_) | (have H2_ := (Option.bind_some _ _).symm.trans H; with_reducible exact H2_) | with_reducible exact H | (rw [hy233]; exact H) | exact H
                        have Ny233 := am hy233
                        clear hy233
                        have H' := am H
                        clear H
                        have p232 : 0 ≤ (x86_4 : Int) := ofd (by assumption)
                        have q232 : x86_4 < (x7_4.length : Int) := ofd (by assumption)
                        obtain ⟨ad232, e232, hx232_0⟩ := Kd.at_int (Kd.R_reads' HO_7.out).2.2 x86_4 p232 q232
                        obtain rfl : ad223 = ad232 := (by injection e232)
                        replace p232 := eq_true p232
                        replace q232 := eq_true q232
                        have p116 : 0 ≤ (x86_4 : Int) := ofd (by assumption)
                        have q116 : (x86_4 : Int) < ((x7_4.length : Int) : Int) := ofd (by assumption)
                        obtain ⟨go116, co116, eo116, gb116, gl116, cl116, HG116⟩ := Kd.R_form HO_7.out (by omega)
                        (first | cases eo116 | (injection eo116 with ea_ en_ ec_; (first | subst ea_ | (injection ea_ with ea_; subst ea_)); subst ec_; clear en_))
                        have GB116 := am gb116
                        have GG116 := am HG116
                        clear gb116 gl116 HG116
                        (first | simp only [add_plain] at hx223_0 | skip)
                        (first | simp only [add_plain] at hx232_0 | skip)
                        obtain ⟨hx116_0, hf116_0⟩ := Kd.R_celln 0 HO_7.out (x86_4 : Int) p116 q116
                        replace p116 := eq_true p116
                        replace q116 := eq_true q116
                        have HP117 := Kd.R_putg HO_7.out (x86_4 : Int) (rd t172 (ji92))
                        go_wp2_with (first | ((with_reducible refine gate_store (t := 3) (p := 98) rfl ?_); refine store_event (t := 3) (p := 98) (v := ?vo_w118) (w1 := (wr.setCell ⟨go116, (x86_4 : Int).toNat, none⟩ (.int .i64 (rd t172 (ji92))))) ?hg ?ho ?hn ?hr ?_; (case ho => rfl); (case hg => rfl); (case hn => rfl); (case hr => first | (go_simp; done) | (go_simp; rfl)); intro w118 hw; have hg : wr.grownBy w118 (some go116) := (by rw [hw]; exact HP117.2); have hp_ : Kd.R (Kd.int .i64) 3 w118 w.heap.size (fun k_ => some k_ ≠ (.slice (some ad222) x6_3.length co13 : Value).ownBlock) (.slice (some ⟨go116, 0, none⟩) x7_4.length co14) y233 := (by rw [hw, Ny233.out]; exact HP117.1); clear HP117; replace HO_6 := am (Kd.R_after (v := (.slice (some ⟨go116, 0, none⟩) x7_4.length co14)) (v1 := (.slice (some ⟨go116, 0, none⟩) x7_4.length co14)) (ok := (fun _ => True)) (by (with_reducible repeat (first | apply rA | apply rN | apply rD)); exact Kd.R_mono HO_6.out (fun _ hk => ⟨trivial, hk⟩)) hg (.inl rfl)); replace BK170 := am (blk_grown (g := gb170) (by (with_reducible repeat (first | apply kB | apply kC | apply kE)); exact BK170.out) hg (Kd.R_ne HO_7.out BK170.out (by decide))); replace BK171 := am (blk_grown (g := gb171) (by (with_reducible repeat (first | apply kB | apply kC | apply kE)); exact BK171.out) hg (Kd.R_ne HO_7.out BK171.out (by decide))); replace HO_7 := am (hp_); replace HB := am ((by rw [hw]; exact bS (HB.out) GB116.out : Below w.heap.size w w118)); clear hg hw hp_))
                        (try simp only [← hl7_4])
                        go_roundg k4
                        case measure => have := HJ4.out; have := HJ99.out; have := HK3.out; have := HK4.out; omega
                        case rel => exact ⟨(y233), (wrap64 (x86_4 + 1)), (by first | rfl | (simp; done) | (simp [*]; done)), H', ⟨by have := HJ4.out; have := HJ99.out; have := HK3.out; have := HK4.out; omega⟩, ⟨by (try simp only [hl6_3]); (try simp only [hl7_4]); (with_reducible repeat (first | apply rA | apply rN | apply rD)); exact Kd.R_mono HO_6.out (fun _ hk => hk.2)⟩, ⟨by (try simp only [hl6_3]); (try simp only [hl7_4]); (with_reducible repeat (first | apply rA | apply rN | apply rD)); exact HO_7.out⟩, ⟨by (try simp only [hl6_3]); (try simp only [hl7_4]); (with_reducible repeat (first | apply kB | apply kC | apply kE)); exact BK170.out⟩, ⟨by (try simp only [hl6_3]); (try simp only [hl7_4]); (with_reducible repeat (first | apply kB | apply kC | apply kE)); exact BK171.out⟩, ⟨by repeat (with_reducible first | exact HB.out | apply bA | apply bN | apply bD | refine bS ?_ GE170.out | refine bS ?_ GE171.out)⟩⟩
                       ·rw [if_neg c115] at H
                        have c115b0 : ((rd x7_4 x86_4) == (rd t175 (ji95))) = false := beq_eq_false_iff_ne.mpr c115
                        have c115b1 : ((rd x7_4 x86_4) != (rd t175 (ji95))) = true := bne_iff_ne.mpr c115
                        have H' := am H
                        clear H
                        have p232 : 0 ≤ (x86_4 : Int) := ofd (by assumption)
                        have q232 : x86_4 < (x7_4.length : Int) := ofd (by assumption)
                        obtain ⟨ad232, e232, hx232_0⟩ := Kd.at_int (Kd.R_reads' HO_7.out).2.2 x86_4 p232 q232
                        obtain rfl : ad223 = ad232 := (by injection e232)
                        replace p232 := eq_true p232
                        replace q232 := eq_true q232
                        go_wp2
                        (try simp only [← hl7_4])
                        go_roundg k4
                        case measure => have := HJ4.out; have := HJ99.out; have := HK3.out; have := HK4.out; omega
                        case rel => exact ⟨(x7_4), (wrap64 (x86_4 + 1)), (by first | rfl | (simp; done) | (simp [*]; done)), H', ⟨by have := HJ4.out; have := HJ99.out; have := HK3.out; have := HK4.out; omega⟩, ⟨by (try simp only [hl6_3]); (try simp only [hl7_4]); (with_reducible repeat (first | apply rA | apply rN | apply rD)); exact HO_6.out⟩, ⟨by (try simp only [hl6_3]); (try simp only [hl7_4]); (with_reducible repeat (first | apply rA | apply rN | apply rD)); exact HO_7.out⟩, ⟨by (try simp only [hl6_3]); (try simp only [hl7_4]); (with_reducible repeat (first | apply kB | apply kC | apply kE)); exact BK170.out⟩, ⟨by (try simp only [hl6_3]); (try simp only [hl7_4]); (with_reducible repeat (first | apply kB | apply kC | apply kE)); exact BK171.out⟩, ⟨by repeat (with_reducible first | exact HB.out | apply bA | apply bN | apply bD | refine bS ?_ GE170.out | refine bS ?_ GE171.out)⟩⟩
                      ·rw [if_neg c114] at H
                       exact absurd H (by simp)
                     ·rw [if_neg c113] at H
                      exact absurd H (by simp)
                    ·rw [if_neg c112] at H
                     have c112b0 : decide (x86_4 < (y227.length : Int)) = false := decide_eq_false c112
                     (first | have c112c0 : decide (x86_4 < (x6_3.length : Int)) = false := (by rw [← hl6_3]; exact c112b0) | skip)
                     (first | have c112c1 : decide (x86_4 < (x7_4.length : Int)) = false := (by rw [← hl7_4]; exact c112b0) | skip)
                     clear c112
                     replace H := Option.bind_eq_some_iff.mp H
                     obtain ⟨⟨t234, t235⟩, A1190, H⟩ := H
                     replace H : ((spec_stGood.f k4 t234 t235 x8_99).bind fun t241 => (some (t234, t235, x8_99, t241))) = some (r1, r2, r3, r4) := H
                     have A119 := am A1190
                     clear A1190
                     replace H := Option.bind_eq_some_iff.mp H
                     obtain ⟨t241, A1200, H⟩ := H
                     replace H : (some (t234, t235, x8_99, t241)) = some (r1, r2, r3, r4) := H
                     have A120 := am A1200
                     clear A1200
                     simp only [Option.some.injEq, Prod.mk.injEq] at H
                     obtain ⟨rfl, rfl, rfl, rfl⟩ := H
                     try go_wp2_with (first | ((with_reducible refine gate_callee (f := 48) rfl ?_); refine goesL_ (some 135) rfl rfl Try.func48 (by kernel_rfl) rfl #[.slice (some ad222) x6_3.length co13, .slice (some ad223) x7_4.length co14] rfl (by (try simp only [mT, mC, mZ]); first | done | rfl) ?_; (with_reducible refine (spec_stRename.calls k4 _ _ x6_3 _ _ x7_4 t234 t235 _ ?side1 ?side2 ?side3 ?side4 A119.out).mono ?_); (case side1 => repeat (first | exact (Kd.R_reads' HO_6.out).2.2 | (with_reducible first | apply cA | apply cN | apply cD))); (case side2 => exact (Kd.R_reads' HO_6.out).2.1); (case side3 => repeat (first | exact (Kd.R_reads' HO_7.out).2.2 | (with_reducible first | apply cA | apply cN | apply cD))); (case side4 => exact (Kd.R_reads' HO_7.out).2.1); rintro e w121 ⟨v236, v238, rfl, ho0, ho1, hb⟩; refine ⟨_, rfl, ?_⟩; have HO237 := am (Kd.R_lower (Kd.R_new' (Kd.R_new' ho0 (Kd.R_lt (by (with_reducible repeat (first | apply rA | apply rN | apply rD)); exact HO_6.out))) (Kd.R_lt (by (with_reducible repeat (first | apply rA | apply rN | apply rD)); exact HO_7.out))) (below_size (by repeat (with_reducible first | exact HB.out | apply bA | apply bN | apply bD | refine bS ?_ GE170.out | refine bS ?_ GE171.out)))); have HO239 := am (Kd.R_lower (Kd.R_new' (Kd.R_new' ho1 (Kd.R_lt (by (with_reducible repeat (first | apply rA | apply rN | apply rD)); exact HO_6.out))) (Kd.R_lt (by (with_reducible repeat (first | apply rA | apply rN | apply rD)); exact HO_7.out))) (below_size (by repeat (with_reducible first | exact HB.out | apply bA | apply bN | apply bD | refine bS ?_ GE170.out | refine bS ?_ GE171.out)))); replace HO_6 := am (Kd.R_mono (Kd.R_told (Kd.R_told (Kd.R_old (by (with_reducible repeat (first | apply rA | apply rN | apply rD)); exact HO_6.out) hb) (Kd.R_base ho0)) (Kd.R_base ho1)) (fun _ h_ => h_.1)); replace HO_7 := am (Kd.R_mono (Kd.R_told (Kd.R_told (Kd.R_old (by (with_reducible repeat (first | apply rA | apply rN | apply rD)); exact HO_7.out) hb) (Kd.R_base ho0)) (Kd.R_base ho1)) (fun _ h_ => h_.1)); replace BK170 := am (blk_below (g := gb170) (by (with_reducible repeat (first | apply kB | apply kC | apply kE)); exact BK170.out) hb); replace BK171 := am (blk_below (g := gb171) (by (with_reducible repeat (first | apply kB | apply kC | apply kE)); exact BK171.out) hb); replace HB := am (below_step (by repeat (with_reducible first | exact HB.out | apply bA | apply bN | apply bD | refine bS ?_ GE170.out | refine bS ?_ GE171.out)) hb); (try clear hb); (try clear hb2); (try clear hk); (try clear hi); (try clear ho0); (try clear ho1); obtain ⟨Ao122, co122, eo122⟩ := Kd.R_slice HO239.out; subst eo122; obtain ⟨Ao123, co123, eo123⟩ := Kd.R_slice HO237.out; subst eo123) | ((with_reducible refine gate_dst (N := 17) rfl ?_); refine box_event ?hg (N := 17) ?hd (cs := #[.slice none 0 0, .slice none 0 0, .int .i64 0]) (t := 27) ?hr ?_; (case hd => rfl); (case hg => rfl); (case hr => first | (go_simp; done) | (go_simp; rfl)); intro gb240 hg w124 hbox hb; replace HO_6 := am (Kd.R_below (by (with_reducible repeat (first | apply rA | apply rN | apply rD)); exact HO_6.out) hb); replace HO_7 := am (Kd.R_below (by (with_reducible repeat (first | apply rA | apply rN | apply rD)); exact HO_7.out) hb); replace HO237 := am (Kd.R_below (by (with_reducible repeat (first | apply rA | apply rN | apply rD)); exact HO237.out) hb); replace HO239 := am (Kd.R_below (by (with_reducible repeat (first | apply rA | apply rN | apply rD)); exact HO239.out) hb); have BK240 := am (hbox); have GW240 := am ((by rw [hg]; exact (below_size (by repeat (with_reducible first | exact HB.out | apply bA | apply bN | apply bD | refine bS ?_ GE170.out | refine bS ?_ GE171.out))) : w.heap.size ≤ gb240)); have GE240 := am ((by rw [hg]; exact (below_size (by repeat (with_reducible first | exact HB.out | apply bA | apply bN | apply bD | refine bS ?_ GE170.out | refine bS ?_ GE171.out))) : w.heap.size ≤ gb240)); replace HB := am (below_step (by repeat (with_reducible first | exact HB.out | apply bA | apply bN | apply bD | refine bS ?_ GE170.out | refine bS ?_ GE171.out)) hb); have NB170_240 := am ((by rw [hg]; exact Nat.ne_of_lt (blk_lt (g := gb170) (by (with_reducible repeat (first | apply kB | apply kC | apply kE)); exact BK170.out)) : gb170 ≠ gb240)); have NB240_170 := am ((by rw [hg]; exact Nat.ne_of_gt (blk_lt (g := gb170) (by (with_reducible repeat (first | apply kB | apply kC | apply kE)); exact BK170.out)) : gb240 ≠ gb170)); replace BK170 := am (blk_below (g := gb170) (by (with_reducible repeat (first | apply kB | apply kC | apply kE)); exact BK170.out) hb); have NB171_240 := am ((by rw [hg]; exact Nat.ne_of_lt (blk_lt (g := gb171) (by (with_reducible repeat (first | apply kB | apply kC | apply kE)); exact BK171.out)) : gb171 ≠ gb240)); have NB240_171 := am ((by rw [hg]; exact Nat.ne_of_gt (blk_lt (g := gb171) (by (with_reducible repeat (first | apply kB | apply kC | apply kE)); exact BK171.out)) : gb240 ≠ gb171)); replace BK171 := am (blk_below (g := gb171) (by (with_reducible repeat (first | apply kB | apply kC | apply kE)); exact BK171.out) hb); clear hb hbox hg; have hnb125 := NB240_170.out; have hnc125 := NB170_240.out; have hnb126 := NB240_171.out; have hnc126 := NB171_240.out; have hcz127_0 : w124.cell? ⟨gb240, 0, none⟩ = some (.slice none 0 0) := (blk_cell BK240.out 0).trans rfl; have hcz127_1 : w124.cell? ⟨gb240, 1, none⟩ = some (.slice none 0 0) := (blk_cell BK240.out 1).trans rfl; have hcz127_2 : w124.cell? ⟨gb240, 2, none⟩ = some (.int .i64 0) := (blk_cell BK240.out 2).trans rfl; have hfz127_0 := blk_frozen BK240.out 0; have hfz127_1 := blk_frozen BK240.out 1; have hfz127_2 := blk_frozen BK240.out 2))
                     have n0_ : Aside0 (Kd.R (Kd.int .i64) 3 (((w124.setCell ⟨gb240, 0, none⟩ (.slice Ao123 t234.length co123)).setCell ⟨gb240, 1, none⟩ (.slice Ao122 t235.length co122)).setCell ⟨gb240, 2, none⟩ (.int .i64 x8_99)) w.heap.size (fun k_ => some k_ ≠ (.slice (some ad223) x7_4.length co14 : Value).ownBlock ∧ some k_ ≠ (.slice Ao123 t234.length co123 : Value).ownBlock ∧ some k_ ≠ (.slice Ao122 t235.length co122 : Value).ownBlock) (.slice (some ad222) x6_3.length co13) x6_3) := ⟨by (with_reducible repeat (first | apply rA | apply rN | apply rD)); exact Kd.R_mono (Kd.R_far (p := ⟨gb240, 2, none⟩) (Kd.R_far (p := ⟨gb240, 1, none⟩) (Kd.R_far (p := ⟨gb240, 0, none⟩) (Kd.R_types HO_6.out BK240.out (by decide)) (fun _ hk => hk.2) (.slice Ao123 t234.length co123)) (fun _ hk => hk.2) (.slice Ao122 t235.length co122)) (fun _ hk => hk.2) (.int .i64 x8_99)) (fun _ hk => ⟨hk.1.1.1, ⟨hk.1.1.2, hk.1.2⟩⟩)⟩
                     have n1_ : Aside0 (Kd.R (Kd.int .i64) 3 (((w124.setCell ⟨gb240, 0, none⟩ (.slice Ao123 t234.length co123)).setCell ⟨gb240, 1, none⟩ (.slice Ao122 t235.length co122)).setCell ⟨gb240, 2, none⟩ (.int .i64 x8_99)) w.heap.size (fun k_ => some k_ ≠ (.slice (some ad222) x6_3.length co13 : Value).ownBlock ∧ some k_ ≠ (.slice Ao123 t234.length co123 : Value).ownBlock ∧ some k_ ≠ (.slice Ao122 t235.length co122 : Value).ownBlock) (.slice (some ad223) x7_4.length co14) x7_4) := ⟨by (with_reducible repeat (first | apply rA | apply rN | apply rD)); exact Kd.R_mono (Kd.R_far (p := ⟨gb240, 2, none⟩) (Kd.R_far (p := ⟨gb240, 1, none⟩) (Kd.R_far (p := ⟨gb240, 0, none⟩) (Kd.R_types HO_7.out BK240.out (by decide)) (fun _ hk => hk.2) (.slice Ao123 t234.length co123)) (fun _ hk => hk.2) (.slice Ao122 t235.length co122)) (fun _ hk => hk.2) (.int .i64 x8_99)) (fun _ hk => ⟨hk.1.1.1, ⟨hk.1.1.2, hk.1.2⟩⟩)⟩
                     have n2_ : Aside0 (Kd.R (Kd.int .i64) 3 (((w124.setCell ⟨gb240, 0, none⟩ (.slice Ao123 t234.length co123)).setCell ⟨gb240, 1, none⟩ (.slice Ao122 t235.length co122)).setCell ⟨gb240, 2, none⟩ (.int .i64 x8_99)) w.heap.size (fun k_ => some k_ ≠ (.slice (some ad222) x6_3.length co13 : Value).ownBlock ∧ some k_ ≠ (.slice (some ad223) x7_4.length co14 : Value).ownBlock ∧ some k_ ≠ (.slice Ao122 t235.length co122 : Value).ownBlock) (.slice Ao123 t234.length co123) t234) := ⟨by (with_reducible repeat (first | apply rA | apply rN | apply rD)); exact Kd.R_mono (Kd.R_far (p := ⟨gb240, 2, none⟩) (Kd.R_far (p := ⟨gb240, 1, none⟩) (Kd.R_far (p := ⟨gb240, 0, none⟩) (Kd.R_types HO237.out BK240.out (by decide)) (fun _ hk => hk.2) (.slice Ao123 t234.length co123)) (fun _ hk => hk.2) (.slice Ao122 t235.length co122)) (fun _ hk => hk.2) (.int .i64 x8_99)) (fun _ hk => ⟨hk.1.1.2, ⟨hk.1.2, hk.1.1.1⟩⟩)⟩
                     have n3_ : Aside0 (Kd.R (Kd.int .i64) 3 (((w124.setCell ⟨gb240, 0, none⟩ (.slice Ao123 t234.length co123)).setCell ⟨gb240, 1, none⟩ (.slice Ao122 t235.length co122)).setCell ⟨gb240, 2, none⟩ (.int .i64 x8_99)) w.heap.size (fun k_ => some k_ ≠ (.slice (some ad222) x6_3.length co13 : Value).ownBlock ∧ some k_ ≠ (.slice (some ad223) x7_4.length co14 : Value).ownBlock ∧ some k_ ≠ (.slice Ao123 t234.length co123 : Value).ownBlock) (.slice Ao122 t235.length co122) t235) := ⟨by (with_reducible repeat (first | apply rA | apply rN | apply rD)); exact Kd.R_mono (Kd.R_far (p := ⟨gb240, 2, none⟩) (Kd.R_far (p := ⟨gb240, 1, none⟩) (Kd.R_far (p := ⟨gb240, 0, none⟩) (Kd.R_types HO239.out BK240.out (by decide)) (fun _ hk => hk.2) (.slice Ao123 t234.length co123)) (fun _ hk => hk.2) (.slice Ao122 t235.length co122)) (fun _ hk => hk.2) (.int .i64 x8_99)) (fun _ hk => ⟨hk.1.1.2, ⟨hk.1.2, hk.1.1.1⟩⟩)⟩
                     have n4_ : Aside0 ((((w124.setCell ⟨gb240, 0, none⟩ (.slice Ao123 t234.length co123)).setCell ⟨gb240, 1, none⟩ (.slice Ao122 t235.length co122)).setCell ⟨gb240, 2, none⟩ (.int .i64 x8_99)).heap[gb170]? = some (.cells #[.slice A0_0 l0_0.length c0_0, .slice A0_1 l0_1.length c0_1, .int .i64 a0_2] 27 (0, 0))) := ⟨by (with_reducible repeat (first | apply kB | apply kC | apply kE)); refine blk_far ?_ NB170_240.out _; (with_reducible repeat (first | apply kB | apply kC | apply kE)); refine blk_far ?_ NB170_240.out _; (with_reducible repeat (first | apply kB | apply kC | apply kE)); refine blk_far ?_ NB170_240.out _; (with_reducible repeat (first | apply kB | apply kC | apply kE)); exact BK170.out⟩
                     have n5_ : Aside0 ((((w124.setCell ⟨gb240, 0, none⟩ (.slice Ao123 t234.length co123)).setCell ⟨gb240, 1, none⟩ (.slice Ao122 t235.length co122)).setCell ⟨gb240, 2, none⟩ (.int .i64 x8_99)).heap[gb171]? = some (.cells #[.slice none 0 0, .slice none 0 0, .int .i64 0] 27 (0, 0))) := ⟨by (with_reducible repeat (first | apply kB | apply kC | apply kE)); refine blk_far ?_ NB171_240.out _; (with_reducible repeat (first | apply kB | apply kC | apply kE)); refine blk_far ?_ NB171_240.out _; (with_reducible repeat (first | apply kB | apply kC | apply kE)); refine blk_far ?_ NB171_240.out _; (with_reducible repeat (first | apply kB | apply kC | apply kE)); exact BK171.out⟩
                     have n6_ : Aside0 ((((w124.setCell ⟨gb240, 0, none⟩ (.slice Ao123 t234.length co123)).setCell ⟨gb240, 1, none⟩ (.slice Ao122 t235.length co122)).setCell ⟨gb240, 2, none⟩ (.int .i64 x8_99)).heap[gb240]? = some (.cells #[.slice Ao123 t234.length co123, .slice Ao122 t235.length co122, .int .i64 x8_99] 27 (0, 0))) := ⟨by (with_reducible repeat (first | apply kB | apply kC | apply kE)); refine blk_put (cs := #[.slice Ao123 t234.length co123, .slice Ao122 t235.length co122, .int .i64 0]) ?_ 2 _ rfl; (with_reducible repeat (first | apply kB | apply kC | apply kE)); refine blk_put (cs := #[.slice Ao123 t234.length co123, .slice none 0 0, .int .i64 0]) ?_ 1 _ rfl; (with_reducible repeat (first | apply kB | apply kC | apply kE)); refine blk_put (cs := #[.slice none 0 0, .slice none 0 0, .int .i64 0]) ?_ 0 _ rfl; (with_reducible repeat (first | apply kB | apply kC | apply kE)); exact BK240.out⟩
                     have n7_ : Aside0 (Below w.heap.size w (((w124.setCell ⟨gb240, 0, none⟩ (.slice Ao123 t234.length co123)).setCell ⟨gb240, 1, none⟩ (.slice Ao122 t235.length co122)).setCell ⟨gb240, 2, none⟩ (.int .i64 x8_99))) := ⟨by repeat (with_reducible first | exact HB.out | apply bA | apply bN | apply bD | refine bS ?_ GE170.out | refine bS ?_ GE171.out | refine bS ?_ GE240.out)⟩
                     (try clear HO_6)
                     (try clear HO_7)
                     (try clear HO237)
                     (try clear HO239)
                     (try clear BK170)
                     (try clear BK171)
                     (try clear BK240)
                     (try clear HB)
                     generalize (((w124.setCell ⟨gb240, 0, none⟩ (.slice Ao123 t234.length co123)).setCell ⟨gb240, 1, none⟩ (.slice Ao122 t235.length co122)).setCell ⟨gb240, 2, none⟩ (.int .i64 x8_99)) = w128 at n0_ n1_ n2_ n3_ n4_ n5_ n6_ n7_ ⊢
                     have HO_6 := n0_
                     have HO_7 := n1_
                     have HO237 := n2_
                     have HO239 := n3_
                     have BK170 := n4_
                     have BK171 := n5_
                     have BK240 := n6_
                     have HB := n7_
                     clear n0_ n1_ n2_ n3_ n4_ n5_ n6_ n7_
                     replace HO_6 := am (Kd.R_drew HO_6.out)
                     replace HO_7 := am (Kd.R_drew HO_7.out)
                     replace HO237 := am (Kd.R_drew HO237.out)
                     replace HO239 := am (Kd.R_drew HO239.out)
                     replace BK170 := am (kC BK170.out)
                     replace BK171 := am (kC BK171.out)
                     replace BK240 := am (kC BK240.out)
                     replace HB := am (below_drew1 HB.out)
                     refine start_ (n := 5) (S := fun w' => w'.cell? ⟨gb240, 0, none⟩ = some (.slice Ao123 t234.length co123) ∧ w'.cell? ⟨gb240, 1, none⟩ = some (.slice Ao122 t235.length co122) ∧ w'.cell? ⟨gb240, 2, none⟩ = some (.int .i64 x8_99)) (ds := []) #[false, false, false, false, false] (by kernel_rfl) rfl rfl ⟨(blk_cell BK240.out 0).trans rfl, (blk_cell BK240.out 1).trans rfl, (blk_cell BK240.out 2).trans rfl⟩ (fun hHeld => ?_)
                     generalize w128.drew = w129 at HO_6 HO_7 HO237 HO239 BK170 BK171 BK240 HB hHeld ⊢
                     refine take_ (i := 0) (N := some 142) (v := ?_) (a' := ?_) #[true, false, false, false, false] rfl rfl (by kernel_rfl) (fun _ _ _ h => h) (Or.inl ⟨by rfl, ?_⟩) hHeld ?_ ?_
                     rotate_left
                     ·rintro w' ⟨s0, s1, s2⟩
                      go_simp
                      with_reducible rfl
                     rotate_left
                     ·simp only [Act.put, sI, s0_, s1_, i64_w, i32_w]
                      rfl
                     refine take_ (i := 1) (N := some 143) (v := ?_) (a' := ?_) #[true, true, false, false, false] rfl rfl (by kernel_rfl) (fun _ _ _ h => h) (Or.inl ⟨by rfl, ?_⟩) hHeld ?_ ?_
                     rotate_left
                     ·rintro w' ⟨s0, s1, s2⟩
                      go_simp
                      with_reducible rfl
                     rotate_left
                     ·simp only [Act.put, sI, s0_, s1_, i64_w, i32_w]
                      rfl
                     refine one_ (i := 2) (N := some 144) #[true, true, true, false, false] rfl rfl (by kernel_rfl) (by decide) (fun K hK => ?_)
                     refine goes_ Try.func37 (by kernel_rfl) rfl #[.agg #[.slice Ao123 t234.length co123, .slice Ao122 t235.length co122, .int .i64 x8_99]] (by rfl) rfl rfl (by (try simp only [mT, mC, mZ]); first | done | rfl) ?_
                     with_reducible refine (spec_stGood.calls k4 _ _ t234 _ _ t235 x8_99 t241 _ ?side1 ?side2 ?side3 ?side4 A120.out).mono ?_
                     (case side1 => repeat (first | exact (Kd.R_reads' HO237.out).2.2 | (with_reducible first | apply cA | apply cN | apply cD)))
                     (case side2 => exact (Kd.R_reads' HO237.out).2.1)
                     (case side3 => repeat (first | exact (Kd.R_reads' HO239.out).2.2 | (with_reducible first | apply cA | apply cN | apply cD)))
                     (case side4 => exact (Kd.R_reads' HO239.out).2.1)
                     rintro e w130 ⟨rfl, hb⟩
                     refine ⟨_, rfl, ?_⟩
                     replace HO_6 := am (Kd.R_below (by (with_reducible repeat (first | apply rA | apply rN | apply rD)); exact HO_6.out) hb)
                     replace HO_7 := am (Kd.R_below (by (with_reducible repeat (first | apply rA | apply rN | apply rD)); exact HO_7.out) hb)
                     replace HO237 := am (Kd.R_below (by (with_reducible repeat (first | apply rA | apply rN | apply rD)); exact HO237.out) hb)
                     replace HO239 := am (Kd.R_below (by (with_reducible repeat (first | apply rA | apply rN | apply rD)); exact HO239.out) hb)
                     replace BK170 := am (blk_below (g := gb170) (by (with_reducible repeat (first | apply kB | apply kC | apply kE)); exact BK170.out) hb)
                     replace BK171 := am (blk_below (g := gb171) (by (with_reducible repeat (first | apply kB | apply kC | apply kE)); exact BK171.out) hb)
                     replace BK240 := am (blk_below (g := gb240) (by (with_reducible repeat (first | apply kB | apply kC | apply kE)); exact BK240.out) hb)
                     replace HB := am (below_step (by repeat (with_reducible first | exact HB.out | apply bA | apply bN | apply bD | refine bS ?_ GE170.out | refine bS ?_ GE171.out | refine bS ?_ GE240.out)) hb)
                     (try clear hb)
                     (try clear hb2)
                     (try clear hk)
                     (try clear hi)
                     refine hK.out _ _ ⟨(blk_cell BK240.out 0).trans rfl, (blk_cell BK240.out 1).trans rfl, (blk_cell BK240.out 2).trans rfl⟩ (fun hHeld => ?_)
                     clear hK K
                     refine norm_ (a' := ?_) ?_ ?_
                     rotate_left
                     ·show Act.put _ (some 144) _ = _
                      simp only [Act.put, sI, s0_, s1_, i64_w, i32_w]
                      rfl
                     refine one_ (i := 3) (N := none) #[true, true, true, true, false] rfl rfl (by kernel_rfl) (by decide) (fun K hK => ?_)
                     have hs131 : w130.cell? ⟨gb171, 0, none⟩ = some (.slice none 0 0) := (blk_cell BK171.out 0).trans rfl
                     have hfs131 := blk_frozen BK171.out 0
                     have hns131_0 := NB170_171.out
                     have hns131_2 := NB240_171.out
                     have hms131_0 := NB171_170.out
                     have hms131_2 := NB171_240.out
                     have hs132 : w130.cell? ⟨gb171, 1, none⟩ = some (.slice none 0 0) := (blk_cell BK171.out 1).trans rfl
                     have hfs132 := blk_frozen BK171.out 1
                     have hns132_0 := NB170_171.out
                     have hns132_2 := NB240_171.out
                     have hms132_0 := NB171_170.out
                     have hms132_2 := NB171_240.out
                     have hs133 : w130.cell? ⟨gb171, 2, none⟩ = some (.int .i64 0) := (blk_cell BK171.out 2).trans rfl
                     have hfs133 := blk_frozen BK171.out 2
                     have hns133_0 := NB170_171.out
                     have hns133_2 := NB240_171.out
                     have hms133_0 := NB171_170.out
                     have hms133_2 := NB171_240.out
                     refine skip_ (w1 := ?_) (by rfl) rfl ?_ ?_
                     rotate_left
                     ·go_simp
                      rfl
                     refine hK.out _ _ ⟨((cell_far (p := ⟨gb171, _, none⟩) NB240_171.out _).trans (((cell_far (p := ⟨gb171, _, none⟩) NB240_171.out _).trans (((cell_far (p := ⟨gb171, _, none⟩) NB240_171.out _).trans (hHeld.1)))))), ((cell_far (p := ⟨gb171, _, none⟩) NB240_171.out _).trans (((cell_far (p := ⟨gb171, _, none⟩) NB240_171.out _).trans (((cell_far (p := ⟨gb171, _, none⟩) NB240_171.out _).trans (hHeld.2.1)))))), ((cell_far (p := ⟨gb171, _, none⟩) NB240_171.out _).trans (((cell_far (p := ⟨gb171, _, none⟩) NB240_171.out _).trans (((cell_far (p := ⟨gb171, _, none⟩) NB240_171.out _).trans (hHeld.2.2))))))⟩ (fun hHeld => ?_)
                     clear hK K
                     refine pure_ (i := 4) (N := some 5) (v := ?_) (a' := ?_) #[true, true, true, true, true] rfl rfl (by kernel_rfl) (fun _ _ _ h => h) (Or.inl ⟨by rfl, ?_⟩) ?_ ?_
                     rotate_left
                     ·intro w'
                      go_simp
                      with_reducible rfl
                     rotate_left
                     ·simp only [Act.put, sI, s0_, s1_, i64_w, i32_w]
                      rfl
                     refine done_ (by kernel_rfl) ?_
                     try go_wp2
                     refine bodyPost_ret (results_ct rfl _ _ gb171 27 #[.slice Ao123 t234.length co123, .slice Ao122 t235.length co122, .int .i64 x8_99] (0, 0) _ rfl (by (with_reducible repeat (first | apply kB | apply kC | apply kE)); refine blk_put (cs := #[.slice Ao123 t234.length co123, .slice Ao122 t235.length co122, .int .i64 0]) ?_ 2 _ rfl; (with_reducible repeat (first | apply kB | apply kC | apply kE)); refine blk_put (cs := #[.slice Ao123 t234.length co123, .slice none 0 0, .int .i64 0]) ?_ 1 _ rfl; (with_reducible repeat (first | apply kB | apply kC | apply kE)); refine blk_put (cs := #[.slice none 0 0, .slice none 0 0, .int .i64 0]) ?_ 0 _ rfl; (with_reducible repeat (first | apply kB | apply kC | apply kE)); exact BK171.out) Try.underlying27 rfl (by kernel_rfl)) rfl ?_
                     exact ⟨_, _, by first | rfl | (simp [errW_none, errW_some] <;> rfl) | (simp only [← hji92, ← hji95]; first | rfl | (simp [errW_none, errW_some] <;> rfl)) | (simp [*, errW_none, errW_some] <;> rfl), by (with_reducible repeat (first | apply rA | apply rN | apply rD)); exact Kd.R_mono (Kd.R_far (p := ⟨gb171, 2, none⟩) (Kd.R_far (p := ⟨gb171, 1, none⟩) (Kd.R_far (p := ⟨gb171, 0, none⟩) (Kd.R_types HO237.out BK171.out (by decide)) (fun _ hk => hk.2) (.slice Ao123 t234.length co123)) (fun _ hk => hk.2) (.slice Ao122 t235.length co122)) (fun _ hk => hk.2) (.int .i64 x8_99)) (fun _ hk => hk.1.2.2), by (with_reducible repeat (first | apply rA | apply rN | apply rD)); exact Kd.R_mono (Kd.R_far (p := ⟨gb171, 2, none⟩) (Kd.R_far (p := ⟨gb171, 1, none⟩) (Kd.R_far (p := ⟨gb171, 0, none⟩) (Kd.R_types HO239.out BK171.out (by decide)) (fun _ hk => hk.2) (.slice Ao123 t234.length co123)) (fun _ hk => hk.2) (.slice Ao122 t235.length co122)) (fun _ hk => hk.2) (.int .i64 x8_99)) (fun _ hk => hk.1.2.2), by repeat (with_reducible first | exact HB.out | apply bA | apply bN | apply bD | refine bS ?_ GE170.out | refine bS ?_ GE171.out | refine bS ?_ GE240.out)⟩
            ·rw [if_neg c99] at H
             exact absurd H (by simp)
           ·rw [if_neg c98] at H
            exact absurd H (by simp)
          ·rw [if_neg c97] at H
           exact absurd H (by simp)
         ·rw [if_neg c96] at H
          exact absurd H (by simp)
        ·rw [if_neg c94] at H
         exact absurd H (by simp)
       ·rw [if_neg c93] at H
        exact absurd H (by simp)
end Go.Proofs.Ytlbaldejaapbiaa.QFnExactStatesAfter
