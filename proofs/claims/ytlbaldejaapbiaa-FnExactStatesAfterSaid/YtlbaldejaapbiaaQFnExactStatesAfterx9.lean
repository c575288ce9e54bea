-- Written by wip/myprint.py (a program of mine round the kit's printer). Lean checks it.
import Derived.Test.YtlbaldejaapbiaaQFnExactStatesAfterx0
import Derived.Test.YtlbaldejaapbiaaQFnExactStatesAfterx8
namespace Go.Proofs.Ytlbaldejaapbiaa.QFnExactStatesAfter
open Go.RowKit Go.Proofs.YtlbaldejaapbiaaW.PrintWords Go.Proofs.YtlbaldejaapbiaaW.PrintLast Go.Proofs.YtlbaldejaapbiaaW.PrintMore
attribute [local go_sem] max2_int min2_int max_two min_two max_three min_three max_four min_four
set_option linter.unusedVariables false
set_option linter.unusedSimpArgs false
set_option maxHeartbeats 8000000
set_option maxRecDepth 100000
def swpL (y x : Int) (l : List Int) : List Int := l.map fun v => if v = y then x else v
def mixL (y x : Int) (l : List Int) (j : Nat) : List Int := swpL y x (l.take j) ++ l.drop j
theorem mixL_0 (y x : Int) (l : List Int) : mixL y x l 0 = l := by simp [mixL, swpL]
theorem mixL_all (y x : Int) (l : List Int) : mixL y x l l.length = swpL y x l := by simp [mixL]
theorem mixL_len (y x : Int) (l : List Int) (j : Nat) : (mixL y x l j).length = l.length := by simp [mixL, swpL]; omega
theorem mixL_rd (y x : Int) (l : List Int) (j : Nat) (h : j < l.length) : rd (mixL y x l j) ((j : Nat) : Int) = rd l ((j : Nat) : Int) := by
 unfold rd mixL swpL
 rw [Int.toNat_natCast, List.getD_eq_getElem?_getD, List.getD_eq_getElem?_getD, List.getElem?_append_right (by simp; omega)]
 simp [Nat.min_eq_left (Nat.le_of_lt h)]
theorem mixL_step (y x : Int) (l : List Int) (j : Nat) (h : j < l.length) : mixL y x l (j + 1) = swpL y x (l.take j) ++ (if rd l ((j : Nat) : Int) = y then x else rd l ((j : Nat) : Int)) :: l.drop (j + 1) := by
 have e : rd l ((j : Nat) : Int) = l[j] := by unfold rd; rw [Int.toNat_natCast, List.getD_eq_getElem?_getD, List.getElem?_eq_getElem h]; rfl
 unfold mixL swpL
 rw [List.take_succ_eq_append_getElem h, List.map_append, List.append_assoc, e]; rfl
theorem mixL_split (y x : Int) (l : List Int) (j : Nat) (h : j < l.length) : mixL y x l j = swpL y x (l.take j) ++ l[j] :: l.drop (j + 1) := by
 unfold mixL
 rw [← List.drop_eq_getElem_cons h]
theorem mixL_set (y x : Int) (l : List Int) (j : Nat) (h : j < l.length) (e : rd l ((j : Nat) : Int) = y) : (mixL y x l j).set j x = mixL y x l (j + 1) := by
 rw [mixL_step y x l j h, if_pos e, mixL_split y x l j h, List.set_append_right _ _ (by simp [swpL]; omega)]
 have : j - (swpL y x (l.take j)).length = 0 := by simp [swpL]; omega
 rw [this]; rfl
theorem mixL_keep (y x : Int) (l : List Int) (j : Nat) (h : j < l.length) (e : ¬ rd l ((j : Nat) : Int) = y) : mixL y x l j = mixL y x l (j + 1) := by
 have e2 : rd l ((j : Nat) : Int) = l[j] := by unfold rd; rw [Int.toNat_natCast, List.getD_eq_getElem?_getD, List.getElem?_eq_getElem h]; rfl
 rw [mixL_step y x l j h, if_neg e, mixL_split y x l j h, e2]
mutual
def impl_State_stepped.j0 : Nat → Int → Bool → List Int → List Int → Int → Option (List Int × List Int × Int × Bool)
 | 0, _, _, _, _, _ => none
 | k + 1, x1, x32, x343000, x343001, x343002 => if x32 = true then (some (([] : List Int), ([] : List Int), 0, false)) else ((slices_Clone_int_int.f x343000).bind fun t344 => ((slices_Clone_int_int.f x343001).bind fun t347 => (if (Go.bits .and .i64 x1 2) = 0 then (impl_State_stepped.j1 k x1 100 100 t344 t347 x343002) else ((impl_last.f t344).bind fun bt351 => (impl_State_stepped.j1 k x1 bt351.2 100 bt351.1 t347 x343002)))))
def impl_State_stepped.j1 : Nat → Int → Int → Int → List Int → List Int → Int → Option (List Int × List Int × Int × Bool)
 | 0, _, _, _, _, _, _ => none
 | k + 1, x1, x7, x8, x351000, x351001, x351002 => if (Go.bits .and .i64 x1 1) = 0 then (impl_State_stepped.j2 k x1 x7 x8 x351000 x351001 x351002) else ((impl_last.f x351001).bind fun bt355 => (impl_State_stepped.j2 k x1 x7 bt355.2 x351000 bt355.1 x351002))
def impl_State_stepped.j2 : Nat → Int → Int → Int → List Int → List Int → Int → Option (List Int × List Int × Int × Bool)
 | 0, _, _, _, _, _, _ => none
 | k + 1, x1, x7, x8, x351000, x351001, x351002 => if x1 = 0 then ((some (([100] : List Int) : List Int)).bind fun y359 => (if x351000.length + y359.length < 17592186044416 then ((some (([100] : List Int) : List Int)).bind fun y365 => (if x351001.length + y365.length < 17592186044416 then (impl_State_stepped.j3 k (x351000 ++ y359) (x351001 ++ y365) x351002) else (none))) else (none))) else (if x1 = 1 then ((some (([x8] : List Int) : List Int)).bind fun y371 => (if x351000.length + y371.length < 17592186044416 then (impl_State_stepped.j3 k (x351000 ++ y371) x351001 x351002) else (none))) else (if x1 = 2 then ((some (([x7] : List Int) : List Int)).bind fun y377 => (if x351001.length + y377.length < 17592186044416 then (impl_State_stepped.j3 k x351000 (x351001 ++ y377) x351002) else (none))) else (if 1000 < x351000.length then none else (if 1000 < x351001.length then none else (impl_State_stepped.j3 k (swpL x8 x7 x351000) (swpL x8 x7 x351001) (if x7 = x8 then (wrap64 (x351002 + 1)) else x351002))))))
def impl_State_stepped.j3 : Nat → List Int → List Int → Int → Option (List Int × List Int × Int × Bool)
 | 0, _, _, _ => none
 | k + 1, x351000, x351001, x351002 => if (x351000.length : Int) > 6 then (impl_State_stepped.j4 k true x351000 x351001 x351002) else (if (x351001.length : Int) > 6 then (impl_State_stepped.j4 k true x351000 x351001 x351002) else (impl_State_stepped.j4 k (decide (x351002 > 6)) x351000 x351001 x351002))
def impl_State_stepped.j4 : Nat → Bool → List Int → List Int → Int → Option (List Int × List Int × Int × Bool)
 | 0, _, _, _, _ => none
 | k + 1, x139, x351000, x351001, x351002 => if x139 = true then (some (([] : List Int), ([] : List Int), 0, false)) else ((impl_renumbered.f x351000 x351001 x351002).bind fun bt383 => (some (bt383.1, bt383.2.1, bt383.2.2, true)))
end
def impl_State_stepped.f (k : Nat) (l0_0 : List Int) (l0_1 : List Int) (a0_2 : Int) (a1 : Int) : Option (List Int × List Int × Int × Bool) := if (Go.bits .and .i64 a1 1) = 0 then (if (Go.bits .and .i64 a1 2) = 0 then (impl_State_stepped.j0 k a1 false l0_0 l0_1 a0_2) else (impl_State_stepped.j0 k a1 ((l0_0.length : Int) == 0) l0_0 l0_1 a0_2)) else (if (l0_1.length : Int) = 0 then (impl_State_stepped.j0 k a1 true l0_0 l0_1 a0_2) else (if (Go.bits .and .i64 a1 2) = 0 then (impl_State_stepped.j0 k a1 false l0_0 l0_1 a0_2) else (impl_State_stepped.j0 k a1 ((l0_0.length : Int) == 0) l0_0 l0_1 a0_2)))
theorem impl_State_stepped.mono_l : ∀ k, (∀ y0 y1 y2 y3 y4, LeO (impl_State_stepped.j0 k y0 y1 y2 y3 y4) (impl_State_stepped.j0 (k + 1) y0 y1 y2 y3 y4)) ∧ (∀ y0 y1 y2 y3 y4 y5, LeO (impl_State_stepped.j1 k y0 y1 y2 y3 y4 y5) (impl_State_stepped.j1 (k + 1) y0 y1 y2 y3 y4 y5)) ∧ (∀ y0 y1 y2 y3 y4 y5, LeO (impl_State_stepped.j2 k y0 y1 y2 y3 y4 y5) (impl_State_stepped.j2 (k + 1) y0 y1 y2 y3 y4 y5)) ∧ (∀ y0 y1 y2, LeO (impl_State_stepped.j3 k y0 y1 y2) (impl_State_stepped.j3 (k + 1) y0 y1 y2)) ∧ (∀ y0 y1 y2 y3, LeO (impl_State_stepped.j4 k y0 y1 y2 y3) (impl_State_stepped.j4 (k + 1) y0 y1 y2 y3))
 | 0 => ⟨fun _ _ _ _ _ r h => by simp [impl_State_stepped.j0] at h, fun _ _ _ _ _ _ r h => by simp [impl_State_stepped.j1] at h, fun _ _ _ _ _ _ r h => by simp [impl_State_stepped.j2] at h, fun _ _ _ r h => by simp [impl_State_stepped.j3] at h, fun _ _ _ _ r h => by simp [impl_State_stepped.j4] at h⟩
 | k + 1 => by
  obtain ⟨ih0, ih1, ih2, ih3, ih4⟩ := impl_State_stepped.mono_l k
  refine ⟨?_, ?_, ?_, ?_, ?_⟩
  ·intro y0 y1 y2 y3 y4
   unfold impl_State_stepped.j0
   repeat' first
    | (with_reducible first | exact ih0 _ _ _ _ _ | exact ih1 _ _ _ _ _ _ | exact ih2 _ _ _ _ _ _ | exact ih3 _ _ _ | exact ih4 _ _ _ _ | exact LeO.refl _ | exact LeO.none _ | refine LeO.ite ?_ ?_ | refine LeO.bind ?_ (fun _ => ?_))
    | exact LeO.none _
    | refine LeO.ite ?_ ?_
    | refine LeO.bind ?_ (fun _ => ?_)
  ·intro y0 y1 y2 y3 y4 y5
   unfold impl_State_stepped.j1
   repeat' first
    | (with_reducible first | exact ih0 _ _ _ _ _ | exact ih1 _ _ _ _ _ _ | exact ih2 _ _ _ _ _ _ | exact ih3 _ _ _ | exact ih4 _ _ _ _ | exact LeO.refl _ | exact LeO.none _ | refine LeO.ite ?_ ?_ | refine LeO.bind ?_ (fun _ => ?_))
    | exact LeO.none _
    | refine LeO.ite ?_ ?_
    | refine LeO.bind ?_ (fun _ => ?_)
  ·intro y0 y1 y2 y3 y4 y5
   unfold impl_State_stepped.j2
   repeat' first
    | (with_reducible first | exact ih0 _ _ _ _ _ | exact ih1 _ _ _ _ _ _ | exact ih2 _ _ _ _ _ _ | exact ih3 _ _ _ | exact ih4 _ _ _ _ | exact LeO.refl _ | exact LeO.none _ | refine LeO.ite ?_ ?_ | refine LeO.bind ?_ (fun _ => ?_))
    | exact LeO.none _
    | refine LeO.ite ?_ ?_
    | refine LeO.bind ?_ (fun _ => ?_)
  ·intro y0 y1 y2
   unfold impl_State_stepped.j3
   repeat' first
    | (with_reducible first | exact ih0 _ _ _ _ _ | exact ih1 _ _ _ _ _ _ | exact ih2 _ _ _ _ _ _ | exact ih3 _ _ _ | exact ih4 _ _ _ _ | exact LeO.refl _ | exact LeO.none _ | refine LeO.ite ?_ ?_ | refine LeO.bind ?_ (fun _ => ?_))
    | exact LeO.none _
    | refine LeO.ite ?_ ?_
    | refine LeO.bind ?_ (fun _ => ?_)
  ·intro y0 y1 y2 y3
   unfold impl_State_stepped.j4
   repeat' first
    | (with_reducible first | exact ih0 _ _ _ _ _ | exact ih1 _ _ _ _ _ _ | exact ih2 _ _ _ _ _ _ | exact ih3 _ _ _ | exact ih4 _ _ _ _ | exact LeO.refl _ | exact LeO.none _ | refine LeO.ite ?_ ?_ | refine LeO.bind ?_ (fun _ => ?_))
    | exact LeO.none _
    | refine LeO.ite ?_ ?_
    | refine LeO.bind ?_ (fun _ => ?_)
theorem impl_State_stepped.mono : ∀ a0 a1 a2 a3 k, LeO (impl_State_stepped.f k a0 a1 a2 a3) (impl_State_stepped.f (k + 1) a0 a1 a2 a3) := by
 intro a0 a1 a2 a3 k
 obtain ⟨ih0, ih1, ih2, ih3, ih4⟩ := impl_State_stepped.mono_l k
 unfold impl_State_stepped.f
 repeat' first
  | (with_reducible first | exact ih0 _ _ _ _ _ | exact ih1 _ _ _ _ _ _ | exact ih2 _ _ _ _ _ _ | exact ih3 _ _ _ | exact ih4 _ _ _ _ | exact LeO.refl _ | exact LeO.none _ | refine LeO.ite ?_ ?_ | refine LeO.bind ?_ (fun _ => ?_))
  | exact LeO.none _
  | refine LeO.ite ?_ ?_
  | refine LeO.bind ?_ (fun _ => ?_)
def impl_State_stepped.T3 : Bool × List (List Nat × List Nat) := (true, [([], []), ([0], [0]), ([1], [1]), ([], []), ([3], [3]), ([4, 2], [4]), ([], []), ([6], [6]), ([2, 5, 7], [2, 5, 7]), ([], []), ([9, 8, 5, 0, 1, 2, 3, 4, 5, 6, 7, 8, 9], [8, 9])])
def impl_State_stepped.B3 : List Nat := [0, 1, 3, 0, 8, 31, 0, 64, 255, 0, 1023]
theorem impl_State_stepped.tab3 : rtab .any (opsOf Try.f59 3) = impl_State_stepped.T3 := by kernel_rfl
theorem impl_State_stepped.bits3 : waitsOk impl_State_stepped.T3.2 impl_State_stepped.B3 = true := by kernel_rfl
def impl_State_stepped.T23 : Bool × List (List Nat × List Nat) := (true, [([], []), ([0], [0]), ([], []), ([1, 2], [1, 2]), ([], []), ([4], [4]), ([], []), ([5, 6, 3], [5, 6]), ([0, 1, 2, 3, 4, 5], []), ([8, 3, 7, 0, 1, 2, 3, 4, 5], [3, 8]), ([0, 1, 2, 3, 4, 5, 6, 7, 8, 9], []), ([10, 7, 9, 0, 1, 2, 3, 4, 5, 6, 7, 8, 9], [7, 10])])
def impl_State_stepped.B23 : List Nat := [0, 1, 0, 7, 0, 16, 0, 127, 63, 511, 1023, 2047]
theorem impl_State_stepped.tab23 : rtab .any (opsOf Try.f59 23) = impl_State_stepped.T23 := by kernel_rfl
theorem impl_State_stepped.bits23 : waitsOk impl_State_stepped.T23.2 impl_State_stepped.B23 = true := by kernel_rfl
theorem impl_State_stepped.calls (k : Nat) (A0_0 : Option Addr) (c0_0 : Nat) (l0_0 : List Int) (A0_1 : Option Addr) (c0_1 : Nat) (l0_1 : List Int) (a0_2 : Int) (a1 : Int) (r1 : List Int) (r2 : List Int) (r3 : Int) (r4 : Bool) (w : World) (hr0_0 : Kd.C (Kd.int .i64) w A0_0 l0_0.length l0_0) (hc0_0 : l0_0.length ≤ c0_0) (hr0_1 : Kd.C (Kd.int .i64) w A0_1 l0_1.length l0_1) (hc0_1 : l0_1.length ≤ c0_1) (h : impl_State_stepped.f k l0_0 l0_1 a0_2 a1 = some (r1, r2, r3, r4)) :
 Calls Try.prog 59 #[.agg #[.slice A0_0 l0_0.length c0_0, .slice A0_1 l0_1.length c0_1, .int .i64 a0_2], .int .i64 a1] w fun e w' => ∃ v0_ v1_ : Value, e = .returned (.tuple #[.agg #[v0_, v1_, .int .i64 r3], .bool r4]) ∧ Kd.R (Kd.int .i64) 3 w' w.heap.size (fun k_ => some k_ ≠ (v1_ : Value).ownBlock) v0_ r1 ∧ Kd.R (Kd.int .i64) 3 w' w.heap.size (fun k_ => some k_ ≠ (v0_ : Value).ownBlock) v1_ r2 ∧ Below w.heap.size w w' := by
 have hu27 := Try.underlying27
 have HR0_0 := am hr0_0
 have HC0_0 := am hc0_0
 clear hr0_0 hc0_0
 have HR0_1 := am hr0_1
 have HC0_1 := am hc0_1
 clear hr0_1 hc0_1
 have HB := am (Below.refl w.heap.size w)
 have H : (if (Go.bits .and .i64 a1 1) = 0 then (if (Go.bits .and .i64 a1 2) = 0 then (impl_State_stepped.j0 k a1 false l0_0 l0_1 a0_2) else (impl_State_stepped.j0 k a1 ((l0_0.length : Int) == 0) l0_0 l0_1 a0_2)) else (if (l0_1.length : Int) = 0 then (impl_State_stepped.j0 k a1 true l0_0 l0_1 a0_2) else (if (Go.bits .and .i64 a1 2) = 0 then (impl_State_stepped.j0 k a1 false l0_0 l0_1 a0_2) else (impl_State_stepped.j0 k a1 ((l0_0.length : Int) == 0) l0_0 l0_1 a0_2)))) = some (r1, r2, r3, r4) := h
 clear h
 have HC3 := am H
 clear H
 go_enter Try.func59, Try.ntmps59
 go_upto_region 1 with (first | ((with_reducible refine gate_dst (N := 2) rfl ?_); (try (refine gate_guard (by rfl) ?_; dsimp only)); refine box_event ?hg (N := 2) ?hd (cs := #[.slice A0_0 l0_0.length c0_0, .slice A0_1 l0_1.length c0_1, .int .i64 a0_2]) (t := 27) ?hr ?_; (case hd => rfl); (case hg => rfl); (case hr => first | (go_simp; done) | (go_simp; rfl)); intro gb342 hg w4 hbox hb; have BK342 := am (hbox); have GW342 := am ((by rw [hg]; exact (below_size (by repeat (with_reducible first | exact HB.out | apply bA | apply bN | apply bD))) : w.heap.size ≤ gb342)); have GE342 := am ((by rw [hg]; exact (below_size (by repeat (with_reducible first | exact HB.out | apply bA | apply bN | apply bD))) : w.heap.size ≤ gb342)); replace HB := am (below_step (by repeat (with_reducible first | exact HB.out | apply bA | apply bN | apply bD)) hb); clear hb hbox hg) | ((with_reducible refine gate_dst (N := 4) rfl ?_); (try (refine gate_guard (by rfl) ?_; dsimp only)); refine box_event ?hg (N := 4) ?hd (cs := #[.slice none 0 0, .slice none 0 0, .int .i64 0]) (t := 27) ?hr ?_; (case hd => rfl); (case hg => rfl); (case hr => first | (go_simp; done) | (go_simp; rfl)); intro gb343 hg w5 hbox hb; have BK343 := am (hbox); have GW343 := am ((by rw [hg]; exact (below_size (by repeat (with_reducible first | exact HB.out | apply bA | apply bN | apply bD | refine bS ?_ GE342.out))) : w.heap.size ≤ gb343)); have GE343 := am ((by rw [hg]; exact (below_size (by repeat (with_reducible first | exact HB.out | apply bA | apply bN | apply bD | refine bS ?_ GE342.out))) : w.heap.size ≤ gb343)); replace HB := am (below_step (by repeat (with_reducible first | exact HB.out | apply bA | apply bN | apply bD | refine bS ?_ GE342.out)) hb); have NB342_343 := am ((by rw [hg]; exact Nat.ne_of_lt (blk_lt (g := gb342) (o := .cells #[.slice A0_0 l0_0.length c0_0, .slice A0_1 l0_1.length c0_1, .int .i64 a0_2] 27 (0, 0)) (by (with_reducible repeat (first | apply kB | apply kC | apply kE)); exact BK342.out)) : gb342 ≠ gb343)); have NB343_342 := am ((by rw [hg]; exact Nat.ne_of_gt (blk_lt (g := gb342) (o := .cells #[.slice A0_0 l0_0.length c0_0, .slice A0_1 l0_1.length c0_1, .int .i64 a0_2] 27 (0, 0)) (by (with_reducible repeat (first | apply kB | apply kC | apply kE)); exact BK342.out)) : gb343 ≠ gb342)); replace BK342 := am (blk_below (g := gb342) (o := .cells #[.slice A0_0 l0_0.length c0_0, .slice A0_1 l0_1.length c0_1, .int .i64 a0_2] 27 (0, 0)) (by (with_reducible repeat (first | apply kB | apply kC | apply kE)); exact BK342.out) hb); clear hb hbox hg))
 (try simp only [Act.put, sI, s0_, s1_])
 go_cut [32] (fun v32 wc => ∃ (kq : Nat) (x32_2 : Bool), v32 = .bool x32_2 ∧ Aside0 (impl_State_stepped.j0 kq a1 x32_2 l0_0 l0_1 a0_2 = some (r1, r2, r3, r4)) ∧ Aside0 (kq ≤ k) ∧ Aside0 (wc.heap[gb342]? = some (.cells #[(.slice A0_0 l0_0.length c0_0), (.slice A0_1 l0_1.length c0_1), .int .i64 a0_2] 27 (0, 0))) ∧ Aside0 (wc.heap[gb343]? = some (.cells #[(.slice none 0 0), (.slice none 0 0), .int .i64 0] 27 (0, 0))) ∧ Aside0 (Below w.heap.size w wc))
 case first =>
  have H := HC3.out
  clear HC3
  by_cases c6 : (Go.bits .and .i64 a1 1) = 0
  ·rw [if_pos c6] at H
   have c6b0 : ((Go.bits .and .i64 a1 1) == 0) = true := beq_iff_eq.mpr c6
   have c6b1 : ((Go.bits .and .i64 a1 1) != 0) = false := bne_eq_false_iff_eq.mpr c6
   clear c6
   (first | rw [c6b0] | (simp only [i64_w, i32_w]; rw [c6b0]) | skip)
   by_cases c7 : (Go.bits .and .i64 a1 2) = 0
   ·rw [if_pos c7] at H
    have c7b0 : ((Go.bits .and .i64 a1 2) == 0) = true := beq_iff_eq.mpr c7
    have c7b1 : ((Go.bits .and .i64 a1 2) != 0) = false := bne_eq_false_iff_eq.mpr c7
    clear c7
    have H' := am H
    clear H
    go_wp2
    go_meet
    case rel => exact ⟨_, (false), (by first | rfl | (simp; done) | (simp [*]; done)), H', ⟨by first | omega | exact Nat.le_refl _⟩, ⟨by (with_reducible repeat (first | apply kB | apply kC | apply kE)); exact BK342.out⟩, ⟨by (with_reducible repeat (first | apply kB | apply kC | apply kE)); exact BK343.out⟩, ⟨by repeat (with_reducible first | exact HB.out | apply bA | apply bN | apply bD | refine bS ?_ GE342.out | refine bS ?_ GE343.out)⟩⟩
   ·rw [if_neg c7] at H
    have c7b0 : ((Go.bits .and .i64 a1 2) == 0) = false := beq_eq_false_iff_ne.mpr c7
    have c7b1 : ((Go.bits .and .i64 a1 2) != 0) = true := bne_iff_ne.mpr c7
    have H' := am H
    clear H
    have hnb8 := NB342_343.out
    have hnc8 := NB343_342.out
    have hcz9_0 : w5.cell? ⟨gb342, 0, none⟩ = some (.slice A0_0 l0_0.length c0_0) := (blk_cell BK342.out 0).trans rfl
    have hcz9_1 : w5.cell? ⟨gb342, 1, none⟩ = some (.slice A0_1 l0_1.length c0_1) := (blk_cell BK342.out 1).trans rfl
    have hcz9_2 : w5.cell? ⟨gb342, 2, none⟩ = some (.int .i64 a0_2) := (blk_cell BK342.out 2).trans rfl
    have hfz9_0 := blk_frozen BK342.out 0
    have hfz9_1 := blk_frozen BK342.out 1
    have hfz9_2 := blk_frozen BK342.out 2
    go_wp2
    go_meet
    case rel => exact ⟨_, (((l0_0.length : Int) == 0)), (by first | rfl | (simp; done) | (simp [*]; done)), H', ⟨by first | omega | exact Nat.le_refl _⟩, ⟨by (with_reducible repeat (first | apply kB | apply kC | apply kE)); exact BK342.out⟩, ⟨by (with_reducible repeat (first | apply kB | apply kC | apply kE)); exact BK343.out⟩, ⟨by repeat (with_reducible first | exact HB.out | apply bA | apply bN | apply bD | refine bS ?_ GE342.out | refine bS ?_ GE343.out)⟩⟩
  ·rw [if_neg c6] at H
   have c6b0 : ((Go.bits .and .i64 a1 1) == 0) = false := beq_eq_false_iff_ne.mpr c6
   have c6b1 : ((Go.bits .and .i64 a1 1) != 0) = true := bne_iff_ne.mpr c6
   (first | rw [c6b0] | (simp only [i64_w, i32_w]; rw [c6b0]) | skip)
   by_cases c10 : (l0_1.length : Int) = 0
   ·rw [if_pos c10] at H
    have c10b0 : ((l0_1.length : Int) == 0) = true := beq_iff_eq.mpr c10
    have c10b1 : ((l0_1.length : Int) != 0) = false := bne_eq_false_iff_eq.mpr c10
    clear c10
    have H' := am H
    clear H
    have hnb11 := NB342_343.out
    have hnc11 := NB343_342.out
    have hcz12_0 : w5.cell? ⟨gb342, 0, none⟩ = some (.slice A0_0 l0_0.length c0_0) := (blk_cell BK342.out 0).trans rfl
    have hcz12_1 : w5.cell? ⟨gb342, 1, none⟩ = some (.slice A0_1 l0_1.length c0_1) := (blk_cell BK342.out 1).trans rfl
    have hcz12_2 : w5.cell? ⟨gb342, 2, none⟩ = some (.int .i64 a0_2) := (blk_cell BK342.out 2).trans rfl
    have hfz12_0 := blk_frozen BK342.out 0
    have hfz12_1 := blk_frozen BK342.out 1
    have hfz12_2 := blk_frozen BK342.out 2
    go_wp2
    go_meet
    case rel => exact ⟨_, (true), (by first | rfl | (simp; done) | (simp [*]; done)), H', ⟨by first | omega | exact Nat.le_refl _⟩, ⟨by (with_reducible repeat (first | apply kB | apply kC | apply kE)); exact BK342.out⟩, ⟨by (with_reducible repeat (first | apply kB | apply kC | apply kE)); exact BK343.out⟩, ⟨by repeat (with_reducible first | exact HB.out | apply bA | apply bN | apply bD | refine bS ?_ GE342.out | refine bS ?_ GE343.out)⟩⟩
   ·rw [if_neg c10] at H
    have c10b0 : ((l0_1.length : Int) == 0) = false := beq_eq_false_iff_ne.mpr c10
    have c10b1 : ((l0_1.length : Int) != 0) = true := bne_iff_ne.mpr c10
    have c10b2 : ¬ (l0_1 = []) := fun h_ => c10 (by rw [h_]; rfl)
    by_cases c13 : (Go.bits .and .i64 a1 2) = 0
    ·rw [if_pos c13] at H
     have c13b0 : ((Go.bits .and .i64 a1 2) == 0) = true := beq_iff_eq.mpr c13
     have c13b1 : ((Go.bits .and .i64 a1 2) != 0) = false := bne_eq_false_iff_eq.mpr c13
     clear c13
     have H' := am H
     clear H
     have hnb14 := NB342_343.out
     have hnc14 := NB343_342.out
     have hcz15_0 : w5.cell? ⟨gb342, 0, none⟩ = some (.slice A0_0 l0_0.length c0_0) := (blk_cell BK342.out 0).trans rfl
     have hcz15_1 : w5.cell? ⟨gb342, 1, none⟩ = some (.slice A0_1 l0_1.length c0_1) := (blk_cell BK342.out 1).trans rfl
     have hcz15_2 : w5.cell? ⟨gb342, 2, none⟩ = some (.int .i64 a0_2) := (blk_cell BK342.out 2).trans rfl
     have hfz15_0 := blk_frozen BK342.out 0
     have hfz15_1 := blk_frozen BK342.out 1
     have hfz15_2 := blk_frozen BK342.out 2
     go_wp2
     go_meet
     case rel => exact ⟨_, (false), (by first | rfl | (simp; done) | (simp [*]; done)), H', ⟨by first | omega | exact Nat.le_refl _⟩, ⟨by (with_reducible repeat (first | apply kB | apply kC | apply kE)); exact BK342.out⟩, ⟨by (with_reducible repeat (first | apply kB | apply kC | apply kE)); exact BK343.out⟩, ⟨by repeat (with_reducible first | exact HB.out | apply bA | apply bN | apply bD | refine bS ?_ GE342.out | refine bS ?_ GE343.out)⟩⟩
    ·rw [if_neg c13] at H
     have c13b0 : ((Go.bits .and .i64 a1 2) == 0) = false := beq_eq_false_iff_ne.mpr c13
     have c13b1 : ((Go.bits .and .i64 a1 2) != 0) = true := bne_iff_ne.mpr c13
     have H' := am H
     clear H
     have hnb16 := NB342_343.out
     have hnc16 := NB343_342.out
     have hcz17_0 : w5.cell? ⟨gb342, 0, none⟩ = some (.slice A0_0 l0_0.length c0_0) := (blk_cell BK342.out 0).trans rfl
     have hcz17_1 : w5.cell? ⟨gb342, 1, none⟩ = some (.slice A0_1 l0_1.length c0_1) := (blk_cell BK342.out 1).trans rfl
     have hcz17_2 : w5.cell? ⟨gb342, 2, none⟩ = some (.int .i64 a0_2) := (blk_cell BK342.out 2).trans rfl
     have hfz17_0 := blk_frozen BK342.out 0
     have hfz17_1 := blk_frozen BK342.out 1
     have hfz17_2 := blk_frozen BK342.out 2
     go_wp2
     go_meet
     case rel => exact ⟨_, (((l0_0.length : Int) == 0)), (by first | rfl | (simp; done) | (simp [*]; done)), H', ⟨by first | omega | exact Nat.le_refl _⟩, ⟨by (with_reducible repeat (first | apply kB | apply kC | apply kE)); exact BK342.out⟩, ⟨by (with_reducible repeat (first | apply kB | apply kC | apply kE)); exact BK343.out⟩, ⟨by repeat (with_reducible first | exact HB.out | apply bA | apply bN | apply bD | refine bS ?_ GE342.out | refine bS ?_ GE343.out)⟩⟩
 case rest =>
  clear HC3
  try clear p2
  try clear hcz12_0
  try clear hcz12_1
  try clear hcz12_2
  try clear hcz15_0
  try clear hcz15_1
  try clear hcz15_2
  try clear hcz17_0
  try clear hcz17_1
  try clear hcz17_2
  try clear hcz9_0
  try clear hcz9_1
  try clear hcz9_2
  try clear hfz12_0
  try clear hfz12_1
  try clear hfz12_2
  try clear hfz15_0
  try clear hfz15_1
  try clear hfz15_2
  try clear hfz17_0
  try clear hfz17_1
  try clear hfz17_2
  try clear hfz9_0
  try clear hfz9_1
  try clear hfz9_2
  obtain ⟨kq, x32_2, rfl, HA, HJ2, BK342, BK343, HB⟩ := hcut
  cases kq with
  | zero => exact absurd HA.out (by simp [impl_State_stepped.j0])
  | succ kj2 =>
   have H := HA.out
   clear HA
   simp only [impl_State_stepped.j0] at H
   by_cases c18 : x32_2 = true
   ·subst c18
    have H1 : (some (([] : List Int), ([] : List Int), 0, false)) = some (r1, r2, r3, r4) := by rw [if_pos rfl] at H; exact H
    clear H
    have H := H1
    clear H1
    simp only [Option.some.injEq, Prod.mk.injEq] at H
    obtain ⟨rfl, rfl, rfl, rfl⟩ := H
    have hnb19 := NB343_342.out
    have hnc19 := NB342_343.out
    have hcz20_0 : wc.cell? ⟨gb343, 0, none⟩ = some (.slice none 0 0) := (blk_cell BK343.out 0).trans rfl
    have hcz20_1 : wc.cell? ⟨gb343, 1, none⟩ = some (.slice none 0 0) := (blk_cell BK343.out 1).trans rfl
    have hcz20_2 : wc.cell? ⟨gb343, 2, none⟩ = some (.int .i64 0) := (blk_cell BK343.out 2).trans rfl
    have hfz20_0 := blk_frozen BK343.out 0
    have hfz20_1 := blk_frozen BK343.out 1
    have hfz20_2 := blk_frozen BK343.out 2
    go_wp2
    refine bodyPost_ret (results_ct rfl _ _ gb343 27 #[.slice none 0 0, .slice none 0 0, .int .i64 0] (0, 0) _ rfl (by (with_reducible repeat (first | apply kB | apply kC | apply kE)); refine blk_put (cs := #[.slice none 0 0, .slice none 0 0, .int .i64 0]) ?_ 2 _ rfl; (with_reducible repeat (first | apply kB | apply kC | apply kE)); refine blk_put (cs := #[.slice none 0 0, .slice none 0 0, .int .i64 0]) ?_ 1 _ rfl; (with_reducible repeat (first | apply kB | apply kC | apply kE)); refine blk_put (cs := #[.slice none 0 0, .slice none 0 0, .int .i64 0]) ?_ 0 _ rfl; (with_reducible repeat (first | apply kB | apply kC | apply kE)); exact BK343.out) Try.underlying27 rfl (by kernel_rfl)) rfl ?_
    exact ⟨_, _, by first | rfl | (simp [*, errW_none, errW_some] <;> rfl), by first | exact Kd.R_nil _ _ _ _ _ | exact Kd.N_nil _ _ _ _ _ | exact Kd.V_nil _ _ _ _ _ | exact Kd.Q_nil _ _ _ _ _ | exact Kd.S_nil _ _ _ _ _, by first | exact Kd.R_nil _ _ _ _ _ | exact Kd.N_nil _ _ _ _ _ | exact Kd.V_nil _ _ _ _ _ | exact Kd.Q_nil _ _ _ _ _ | exact Kd.S_nil _ _ _ _ _, by repeat (with_reducible first | exact HB.out | apply bA | apply bN | apply bD | refine bS ?_ GE342.out | refine bS ?_ GE343.out)⟩
   ·replace c18 := Bool.eq_false_iff.mpr c18
    subst c18
    have H1 : ((slices_Clone_int_int.f l0_0).bind fun t344 => ((slices_Clone_int_int.f l0_1).bind fun t347 => (if (Go.bits .and .i64 a1 2) = 0 then (impl_State_stepped.j1 kj2 a1 100 100 t344 t347 a0_2) else ((impl_last.f t344).bind fun bt351 => (impl_State_stepped.j1 kj2 a1 bt351.2 100 bt351.1 t347 a0_2))))) = some (r1, r2, r3, r4) := by rw [if_neg (show ¬ (false = true) by decide)] at H; exact H
    clear H
    have H := H1
    clear H1
    replace H := Option.bind_eq_some_iff.mp H
    obtain ⟨t344, A210, H⟩ := H
    replace H : ((slices_Clone_int_int.f l0_1).bind fun t347 => (if (Go.bits .and .i64 a1 2) = 0 then (impl_State_stepped.j1 kj2 a1 100 100 t344 t347 a0_2) else ((impl_last.f t344).bind fun bt351 => (impl_State_stepped.j1 kj2 a1 bt351.2 100 bt351.1 t347 a0_2)))) = some (r1, r2, r3, r4) := H
    have A21 := am A210
    clear A210
    replace H := Option.bind_eq_some_iff.mp H
    obtain ⟨t347, A220, H⟩ := H
    replace H : (if (Go.bits .and .i64 a1 2) = 0 then (impl_State_stepped.j1 kj2 a1 100 100 t344 t347 a0_2) else ((impl_last.f t344).bind fun bt351 => (impl_State_stepped.j1 kj2 a1 bt351.2 100 bt351.1 t347 a0_2))) = some (r1, r2, r3, r4) := H
    have A22 := am A220
    clear A220
    have HC23 := am H
    clear H
    try go_wp2
    replace BK342 := am (kC BK342.out)
    replace BK343 := am (kC BK343.out)
    replace HB := am (below_drew1 HB.out)
    refine start_ (n := 11) (S := fun w' => w'.cell? ⟨gb342, 0, none⟩ = some (.slice A0_0 l0_0.length c0_0) ∧ w'.cell? ⟨gb342, 1, none⟩ = some (.slice A0_1 l0_1.length c0_1) ∧ w'.cell? ⟨gb342, 2, none⟩ = some (.int .i64 a0_2)) (ds := []) #[false, false, false, false, false, false, false, false, false, false, false] (by kernel_rfl) rfl rfl ⟨(blk_cell BK342.out 0).trans rfl, (blk_cell BK342.out 1).trans rfl, (blk_cell BK342.out 2).trans rfl⟩ (fun hHeld => ?_); refine with_tabW impl_State_stepped.tab3 impl_State_stepped.bits3 (fun HT_ HW_ => ?_)
    generalize wc.drew = w24 at BK342 BK343 HB hHeld ⊢
    refine pure_ (i := 0) (N := some 34) (v := ?_) (a' := ?_) #[true, false, false, false, false, false, false, false, false, false, false] rfl rfl (any_of HT_.out (by kernel_rfl)) (fun _ _ _ h => h) (Or.inl ⟨by rfl, ?_⟩) ?_ ?_
    rotate_left
    ·intro w'
     go_simp
     with_reducible rfl
    rotate_left
    ·simp only [Act.put, sI, s0_, s1_, i64_w, i32_w]
     rfl
    refine pure_ (i := 3) (N := some 37) (v := ?_) (a' := ?_) #[true, false, false, true, false, false, false, false, false, false, false] rfl rfl (any_of HT_.out (by kernel_rfl)) (fun _ _ _ h => h) (Or.inl ⟨by rfl, ?_⟩) ?_ ?_
    rotate_left
    ·intro w'
     go_simp
     with_reducible rfl
    rotate_left
    ·simp only [Act.put, sI, s0_, s1_, i64_w, i32_w]
     rfl
    refine pure_ (i := 6) (N := some 40) (v := ?_) (a' := ?_) #[true, false, false, true, false, false, true, false, false, false, false] rfl rfl (any_of HT_.out (by kernel_rfl)) (fun _ _ _ h => h) (Or.inl ⟨by rfl, ?_⟩) ?_ ?_
    rotate_left
    ·intro w'
     go_simp
     with_reducible rfl
    rotate_left
    ·simp only [Act.put, sI, s0_, s1_, i64_w, i32_w]
     rfl
    refine take_ (i := 1) (N := some 35) (v := ?_) (a' := ?_) #[true, true, false, true, false, false, true, false, false, false, false] rfl rfl (take_ofW HT_.out HW_.out (by kernel_rfl)) (fun _ _ _ h => h) (Or.inl ⟨by rfl, ?_⟩) hHeld ?_ ?_
    rotate_left
    ·rintro w' ⟨s0, s1, s2⟩
     go_simp
     with_reducible rfl
    rotate_left
    ·simp only [Act.put, sI, s0_, s1_, i64_w, i32_w]
     rfl
    refine take_ (i := 4) (N := some 38) (v := ?_) (a' := ?_) #[true, true, false, true, true, false, true, false, false, false, false] rfl rfl (take_ofW HT_.out HW_.out (by kernel_rfl)) (fun _ _ _ h => h) (Or.inl ⟨by rfl, ?_⟩) hHeld ?_ ?_
    rotate_left
    ·rintro w' ⟨s0, s1, s2⟩
     go_simp
     with_reducible rfl
    rotate_left
    ·simp only [Act.put, sI, s0_, s1_, i64_w, i32_w]
     rfl
    refine take_ (i := 7) (N := some 41) (v := ?_) (a' := ?_) #[true, true, false, true, true, false, true, true, false, false, false] rfl rfl (take_ofW HT_.out HW_.out (by kernel_rfl)) (fun _ _ _ h => h) (Or.inl ⟨by rfl, ?_⟩) hHeld ?_ ?_
    rotate_left
    ·rintro w' ⟨s0, s1, s2⟩
     go_simp
     with_reducible rfl
    rotate_left
    ·simp only [Act.put, sI, s0_, s1_, i64_w, i32_w]
     rfl
    refine join_ (σ := Value × Value × Nat) 1 #[true, true, true, true, true, true, true, true, true, true, false] (fun s_ => [(36, s_.1), (39, s_.2.1), (6, .pointer (some ⟨s_.2.2, 0, none⟩)), (42, .agg #[s_.1, s_.2.1, .int .i64 a0_2])]) (fun s_ w' => (w'.cell? ⟨gb342, 0, none⟩ = some (.slice A0_0 l0_0.length c0_0) ∧ w'.cell? ⟨gb342, 1, none⟩ = some (.slice A0_1 l0_1.length c0_1) ∧ w'.cell? ⟨gb342, 2, none⟩ = some (.int .i64 a0_2)) ∧ (Kd.R (Kd.int .i64) 3 w' w.heap.size (fun k_ => some k_ ≠ (s_.2.1 : Value).ownBlock) s_.1 t344) ∧ (Kd.R (Kd.int .i64) 3 w' w.heap.size (fun k_ => some k_ ≠ (s_.1 : Value).ownBlock) s_.2.1 t347) ∧ (w'.heap[gb342]? = some (.cells #[.slice A0_0 l0_0.length c0_0, .slice A0_1 l0_1.length c0_1, .int .i64 a0_2] 27 (0, 0))) ∧ (w'.heap[gb343]? = some (.cells #[.slice none 0 0, .slice none 0 0, .int .i64 0] 27 (0, 0))) ∧ (w'.heap[s_.2.2]? = some (.cells #[.slice none 0 0, .slice none 0 0, .int .i64 0] 27 (0, 0))) ∧ (w.heap.size ≤ s_.2.2) ∧ (w.heap.size ≤ s_.2.2) ∧ (gb342 ≠ s_.2.2) ∧ (s_.2.2 ≠ gb342) ∧ (gb343 ≠ s_.2.2) ∧ (s_.2.2 ≠ gb343) ∧ (Below w.heap.size w w')) ?_ ?_
    rotate_left
    ·intro hCont
     refine two_ (i := 2) (j := 9) (Ni := some 36) (Nj := some 6) #[true, true, true, true, true, false, true, true, false, false, false] #[true, true, false, true, true, false, true, true, false, true, false] rfl rfl rfl rfl (two_of HT_.out (by kernel_rfl)) (by decide) (by decide) (fun K hK => ?_) (fun K hK => ?_)
     ·skip
      refine goes_ Try.func40 (by kernel_rfl) rfl #[.slice A0_0 l0_0.length c0_0] (by rfl) rfl rfl (by (try simp only [mT, mC, mZ]); first | done | rfl) ?_
      with_reducible refine (slices_Clone_int_int.calls _ _ l0_0 t344 _ ?side1 ?side2 A21.out).mono ?_
      (case side1 => repeat (first | exact (Kd.C_below HR0_0.out HB.out) | (with_reducible first | apply cA | apply cN | apply cD)))
      (case side2 => exact HC0_0.out)
      rintro e w25 ⟨v345, rfl, ho0, hb⟩
      refine ⟨_, rfl, ?_⟩
      have HO346 := am (Kd.R_lower ho0 (below_size (by repeat (with_reducible first | exact HB.out | apply bA | apply bN | apply bD | refine bS ?_ GE342.out | refine bS ?_ GE343.out))))
      replace BK342 := am (blk_below (g := gb342) (o := .cells #[.slice A0_0 l0_0.length c0_0, .slice A0_1 l0_1.length c0_1, .int .i64 a0_2] 27 (0, 0)) (by (with_reducible repeat (first | apply kB | apply kC | apply kE)); exact BK342.out) hb)
      replace BK343 := am (blk_below (g := gb343) (o := .cells #[.slice none 0 0, .slice none 0 0, .int .i64 0] 27 (0, 0)) (by (with_reducible repeat (first | apply kB | apply kC | apply kE)); exact BK343.out) hb)
      replace HB := am (below_step (by repeat (with_reducible first | exact HB.out | apply bA | apply bN | apply bD | refine bS ?_ GE342.out | refine bS ?_ GE343.out)) hb)
      (try clear hb)
      (try clear hb2)
      (try clear hk)
      (try clear hi)
      (try clear ho0)
      refine hK.out _ _ ⟨(blk_cell BK342.out 0).trans rfl, (blk_cell BK342.out 1).trans rfl, (blk_cell BK342.out 2).trans rfl⟩ (fun hHeld => ?_)
      clear hK K
      refine norm_ (a' := ?_) ?_ ?_
      rotate_left
      ·show Act.put _ (some 36) _ = _
       simp only [Act.put, sI, s0_, s1_, i64_w, i32_w]
       rfl
      refine two_ (i := 5) (j := 9) (Ni := some 39) (Nj := some 6) #[true, true, true, true, true, true, true, true, false, false, false] #[true, true, true, true, true, false, true, true, false, true, false] rfl rfl rfl rfl (two_of HT_.out (by kernel_rfl)) (by decide) (by decide) (fun K hK => ?_) (fun K hK => ?_)
      ·skip
       refine goes_ Try.func40 (by kernel_rfl) rfl #[.slice A0_1 l0_1.length c0_1] (by rfl) rfl rfl (by (try simp only [mT, mC, mZ]); first | done | rfl) ?_
       with_reducible refine (slices_Clone_int_int.calls _ _ l0_1 t347 _ ?side1 ?side2 A22.out).mono ?_
       (case side1 => repeat (first | exact (Kd.C_below HR0_1.out HB.out) | (with_reducible first | apply cA | apply cN | apply cD)))
       (case side2 => exact HC0_1.out)
       rintro e w26 ⟨v348, rfl, ho0, hb⟩
       refine ⟨_, rfl, ?_⟩
       have HO349 := am (Kd.R_lower (Kd.R_new' ho0 (Kd.R_lt (by (with_reducible repeat (first | apply rA | apply rN | apply rD)); exact HO346.out))) (below_size (by repeat (with_reducible first | exact HB.out | apply bA | apply bN | apply bD | refine bS ?_ GE342.out | refine bS ?_ GE343.out))))
       replace HO346 := am (Kd.R_elder' (by (with_reducible repeat (first | apply rA | apply rN | apply rD)); exact HO346.out) (Kd.R_base ho0) hb)
       replace BK342 := am (blk_below (g := gb342) (o := .cells #[.slice A0_0 l0_0.length c0_0, .slice A0_1 l0_1.length c0_1, .int .i64 a0_2] 27 (0, 0)) (by (with_reducible repeat (first | apply kB | apply kC | apply kE)); exact BK342.out) hb)
       replace BK343 := am (blk_below (g := gb343) (o := .cells #[.slice none 0 0, .slice none 0 0, .int .i64 0] 27 (0, 0)) (by (with_reducible repeat (first | apply kB | apply kC | apply kE)); exact BK343.out) hb)
       replace HB := am (below_step (by repeat (with_reducible first | exact HB.out | apply bA | apply bN | apply bD | refine bS ?_ GE342.out | refine bS ?_ GE343.out)) hb)
       (try clear hb)
       (try clear hb2)
       (try clear hk)
       (try clear hi)
       (try clear ho0)
       obtain ⟨Ao27, co27, eo27⟩ := Kd.R_slice HO349.out
       (first | subst eo27 | (injection eo27 with f1_ f2_ f3_; have f4_ := f1_.symm; have f5_ := f3_.symm; clear f1_ f2_ f3_; subst f4_; subst f5_))
       obtain ⟨Ao28, co28, eo28⟩ := Kd.R_slice HO346.out
       (first | subst eo28 | (injection eo28 with f1_ f2_ f3_; have f4_ := f1_.symm; have f5_ := f3_.symm; clear f1_ f2_ f3_; subst f4_; subst f5_))
       refine hK.out _ _ ⟨(blk_cell BK342.out 0).trans rfl, (blk_cell BK342.out 1).trans rfl, (blk_cell BK342.out 2).trans rfl⟩ (fun hHeld => ?_)
       clear hK K
       refine norm_ (a' := ?_) ?_ ?_
       rotate_left
       ·show Act.put _ (some 39) _ = _
        simp only [Act.put, sI, s0_, s1_, i64_w, i32_w]
        rfl
       refine pure_ (i := 8) (N := some 42) (v := ?_) (a' := ?_) #[true, true, true, true, true, true, true, true, true, false, false] rfl rfl (any_of HT_.out (by kernel_rfl)) (fun _ _ _ h => h) (Or.inl ⟨by rfl, ?_⟩) ?_ ?_
       rotate_left
       ·intro w'
        go_simp
        with_reducible rfl
       rotate_left
       ·simp only [Act.put, sI, s0_, s1_, i64_w, i32_w]
        rfl
       refine one_ (i := 9) (N := some 6) #[true, true, true, true, true, true, true, true, true, true, false] rfl rfl (one_of HT_.out (by kernel_rfl)) (by decide) (fun K hK => ?_)
       refine box_step ?hg (N := 6) ?hd (cs := #[.slice none 0 0, .slice none 0 0, .int .i64 0]) (t := 27) ?hr ?_; (case hd => rfl); (case hg => rfl); (case hr => first | (go_simp; done) | (go_simp; rfl))
       intro gb350 hg w29 hbox hb
       replace HO346 := am (Kd.R_below (by (with_reducible repeat (first | apply rA | apply rN | apply rD)); exact HO346.out) hb)
       replace HO349 := am (Kd.R_below (by (with_reducible repeat (first | apply rA | apply rN | apply rD)); exact HO349.out) hb)
       have BK350 := am (hbox)
       have GW350 := am ((by rw [hg]; exact (below_size (by repeat (with_reducible first | exact HB.out | apply bA | apply bN | apply bD | refine bS ?_ GE342.out | refine bS ?_ GE343.out))) : w.heap.size ≤ gb350))
       have GE350 := am ((by rw [hg]; exact (below_size (by repeat (with_reducible first | exact HB.out | apply bA | apply bN | apply bD | refine bS ?_ GE342.out | refine bS ?_ GE343.out))) : w.heap.size ≤ gb350))
       replace HB := am (below_step (by repeat (with_reducible first | exact HB.out | apply bA | apply bN | apply bD | refine bS ?_ GE342.out | refine bS ?_ GE343.out)) hb)
       have NB342_350 := am ((by rw [hg]; exact Nat.ne_of_lt (blk_lt (g := gb342) (o := .cells #[.slice A0_0 l0_0.length c0_0, .slice A0_1 l0_1.length c0_1, .int .i64 a0_2] 27 (0, 0)) (by (with_reducible repeat (first | apply kB | apply kC | apply kE)); exact BK342.out)) : gb342 ≠ gb350))
       have NB350_342 := am ((by rw [hg]; exact Nat.ne_of_gt (blk_lt (g := gb342) (o := .cells #[.slice A0_0 l0_0.length c0_0, .slice A0_1 l0_1.length c0_1, .int .i64 a0_2] 27 (0, 0)) (by (with_reducible repeat (first | apply kB | apply kC | apply kE)); exact BK342.out)) : gb350 ≠ gb342))
       replace BK342 := am (blk_below (g := gb342) (o := .cells #[.slice A0_0 l0_0.length c0_0, .slice A0_1 l0_1.length c0_1, .int .i64 a0_2] 27 (0, 0)) (by (with_reducible repeat (first | apply kB | apply kC | apply kE)); exact BK342.out) hb)
       have NB343_350 := am ((by rw [hg]; exact Nat.ne_of_lt (blk_lt (g := gb343) (o := .cells #[.slice none 0 0, .slice none 0 0, .int .i64 0] 27 (0, 0)) (by (with_reducible repeat (first | apply kB | apply kC | apply kE)); exact BK343.out)) : gb343 ≠ gb350))
       have NB350_343 := am ((by rw [hg]; exact Nat.ne_of_gt (blk_lt (g := gb343) (o := .cells #[.slice none 0 0, .slice none 0 0, .int .i64 0] 27 (0, 0)) (by (with_reducible repeat (first | apply kB | apply kC | apply kE)); exact BK343.out)) : gb350 ≠ gb343))
       replace BK343 := am (blk_below (g := gb343) (o := .cells #[.slice none 0 0, .slice none 0 0, .int .i64 0] 27 (0, 0)) (by (with_reducible repeat (first | apply kB | apply kC | apply kE)); exact BK343.out) hb)
       clear hb hbox hg
       refine hK.out _ _ ⟨(blk_cell BK342.out 0).trans rfl, (blk_cell BK342.out 1).trans rfl, (blk_cell BK342.out 2).trans rfl⟩ (fun hHeld => ?_)
       clear hK K
       refine norm_ (a' := ?_) ?_ ?_
       rotate_left
       ·show Act.put _ (some 6) _ = _
        simp only [Act.put, sI, s0_, s1_, i64_w, i32_w]
        rfl
       exact norm_ (by simp only [putAll, Act.put, sI, s0_, s1_]) (hCont (.slice Ao28 t344.length co28, .slice Ao27 t347.length co27, gb350) _ ⟨hHeld, (by (with_reducible repeat (first | apply rA | apply rN | apply rD)); exact Kd.R_mono HO346.out (fun _ hk => hk.2)), (by (with_reducible repeat (first | apply rA | apply rN | apply rD)); exact Kd.R_mono HO349.out (fun _ hk => hk.2)), (by (with_reducible repeat (first | apply kB | apply kC | apply kE)); exact BK342.out), (by (with_reducible repeat (first | apply kB | apply kC | apply kE)); exact BK343.out), (by (with_reducible repeat (first | apply kB | apply kC | apply kE)); exact BK350.out), GW350.out, GE350.out, NB342_350.out, NB350_342.out, NB343_350.out, NB350_343.out, (by repeat (with_reducible first | exact HB.out | apply bA | apply bN | apply bD | refine bS ?_ GE342.out | refine bS ?_ GE343.out | refine bS ?_ GE350.out))⟩)
      ·skip
       refine box_step ?hg (N := 6) ?hd (cs := #[.slice none 0 0, .slice none 0 0, .int .i64 0]) (t := 27) ?hr ?_; (case hd => rfl); (case hg => rfl); (case hr => first | (go_simp; done) | (go_simp; rfl))
       intro gb350 hg w26 hbox hb
       replace HO346 := am (Kd.R_below (by (with_reducible repeat (first | apply rA | apply rN | apply rD)); exact HO346.out) hb)
       have BK350 := am (hbox)
       have GW350 := am ((by rw [hg]; exact (below_size (by repeat (with_reducible first | exact HB.out | apply bA | apply bN | apply bD | refine bS ?_ GE342.out | refine bS ?_ GE343.out))) : w.heap.size ≤ gb350))
       have GE350 := am ((by rw [hg]; exact (below_size (by repeat (with_reducible first | exact HB.out | apply bA | apply bN | apply bD | refine bS ?_ GE342.out | refine bS ?_ GE343.out))) : w.heap.size ≤ gb350))
       replace HB := am (below_step (by repeat (with_reducible first | exact HB.out | apply bA | apply bN | apply bD | refine bS ?_ GE342.out | refine bS ?_ GE343.out)) hb)
       have NB342_350 := am ((by rw [hg]; exact Nat.ne_of_lt (blk_lt (g := gb342) (o := .cells #[.slice A0_0 l0_0.length c0_0, .slice A0_1 l0_1.length c0_1, .int .i64 a0_2] 27 (0, 0)) (by (with_reducible repeat (first | apply kB | apply kC | apply kE)); exact BK342.out)) : gb342 ≠ gb350))
       have NB350_342 := am ((by rw [hg]; exact Nat.ne_of_gt (blk_lt (g := gb342) (o := .cells #[.slice A0_0 l0_0.length c0_0, .slice A0_1 l0_1.length c0_1, .int .i64 a0_2] 27 (0, 0)) (by (with_reducible repeat (first | apply kB | apply kC | apply kE)); exact BK342.out)) : gb350 ≠ gb342))
       replace BK342 := am (blk_below (g := gb342) (o := .cells #[.slice A0_0 l0_0.length c0_0, .slice A0_1 l0_1.length c0_1, .int .i64 a0_2] 27 (0, 0)) (by (with_reducible repeat (first | apply kB | apply kC | apply kE)); exact BK342.out) hb)
       have NB343_350 := am ((by rw [hg]; exact Nat.ne_of_lt (blk_lt (g := gb343) (o := .cells #[.slice none 0 0, .slice none 0 0, .int .i64 0] 27 (0, 0)) (by (with_reducible repeat (first | apply kB | apply kC | apply kE)); exact BK343.out)) : gb343 ≠ gb350))
       have NB350_343 := am ((by rw [hg]; exact Nat.ne_of_gt (blk_lt (g := gb343) (o := .cells #[.slice none 0 0, .slice none 0 0, .int .i64 0] 27 (0, 0)) (by (with_reducible repeat (first | apply kB | apply kC | apply kE)); exact BK343.out)) : gb350 ≠ gb343))
       replace BK343 := am (blk_below (g := gb343) (o := .cells #[.slice none 0 0, .slice none 0 0, .int .i64 0] 27 (0, 0)) (by (with_reducible repeat (first | apply kB | apply kC | apply kE)); exact BK343.out) hb)
       clear hb hbox hg
       refine hK.out _ _ ⟨(blk_cell BK342.out 0).trans rfl, (blk_cell BK342.out 1).trans rfl, (blk_cell BK342.out 2).trans rfl⟩ (fun hHeld => ?_)
       clear hK K
       refine norm_ (a' := ?_) ?_ ?_
       rotate_left
       ·show Act.put _ (some 6) _ = _
        simp only [Act.put, sI, s0_, s1_, i64_w, i32_w]
        rfl
       refine one_ (i := 5) (N := some 39) #[true, true, true, true, true, true, true, true, false, true, false] rfl rfl (one_of HT_.out (by kernel_rfl)) (by decide) (fun K hK => ?_)
       refine goes_ Try.func40 (by kernel_rfl) rfl #[.slice A0_1 l0_1.length c0_1] (by rfl) rfl rfl (by (try simp only [mT, mC, mZ]); first | done | rfl) ?_
       with_reducible refine (slices_Clone_int_int.calls _ _ l0_1 t347 _ ?side1 ?side2 A22.out).mono ?_
       (case side1 => repeat (first | exact (Kd.C_below HR0_1.out HB.out) | (with_reducible first | apply cA | apply cN | apply cD)))
       (case side2 => exact HC0_1.out)
       rintro e w27 ⟨v348, rfl, ho0, hb⟩
       refine ⟨_, rfl, ?_⟩
       have HO349 := am (Kd.R_lower (Kd.R_new' ho0 (Kd.R_lt (by (with_reducible repeat (first | apply rA | apply rN | apply rD)); exact HO346.out))) (below_size (by repeat (with_reducible first | exact HB.out | apply bA | apply bN | apply bD | refine bS ?_ GE342.out | refine bS ?_ GE343.out | refine bS ?_ GE350.out))))
       replace HO346 := am (Kd.R_elder' (by (with_reducible repeat (first | apply rA | apply rN | apply rD)); exact HO346.out) (Kd.R_base ho0) hb)
       replace BK342 := am (blk_below (g := gb342) (o := .cells #[.slice A0_0 l0_0.length c0_0, .slice A0_1 l0_1.length c0_1, .int .i64 a0_2] 27 (0, 0)) (by (with_reducible repeat (first | apply kB | apply kC | apply kE)); exact BK342.out) hb)
       replace BK343 := am (blk_below (g := gb343) (o := .cells #[.slice none 0 0, .slice none 0 0, .int .i64 0] 27 (0, 0)) (by (with_reducible repeat (first | apply kB | apply kC | apply kE)); exact BK343.out) hb)
       replace BK350 := am (blk_below (g := gb350) (o := .cells #[.slice none 0 0, .slice none 0 0, .int .i64 0] 27 (0, 0)) (by (with_reducible repeat (first | apply kB | apply kC | apply kE)); exact BK350.out) hb)
       replace HB := am (below_step (by repeat (with_reducible first | exact HB.out | apply bA | apply bN | apply bD | refine bS ?_ GE342.out | refine bS ?_ GE343.out | refine bS ?_ GE350.out)) hb)
       (try clear hb)
       (try clear hb2)
       (try clear hk)
       (try clear hi)
       (try clear ho0)
       obtain ⟨Ao28, co28, eo28⟩ := Kd.R_slice HO349.out
       (first | subst eo28 | (injection eo28 with f1_ f2_ f3_; have f4_ := f1_.symm; have f5_ := f3_.symm; clear f1_ f2_ f3_; subst f4_; subst f5_))
       obtain ⟨Ao29, co29, eo29⟩ := Kd.R_slice HO346.out
       (first | subst eo29 | (injection eo29 with f1_ f2_ f3_; have f4_ := f1_.symm; have f5_ := f3_.symm; clear f1_ f2_ f3_; subst f4_; subst f5_))
       refine hK.out _ _ ⟨(blk_cell BK342.out 0).trans rfl, (blk_cell BK342.out 1).trans rfl, (blk_cell BK342.out 2).trans rfl⟩ (fun hHeld => ?_)
       clear hK K
       refine norm_ (a' := ?_) ?_ ?_
       rotate_left
       ·show Act.put _ (some 39) _ = _
        simp only [Act.put, sI, s0_, s1_, i64_w, i32_w]
        rfl
       refine pure_ (i := 8) (N := some 42) (v := ?_) (a' := ?_) #[true, true, true, true, true, true, true, true, true, true, false] rfl rfl (any_of HT_.out (by kernel_rfl)) (fun _ _ _ h => h) (Or.inl ⟨by rfl, ?_⟩) ?_ ?_
       rotate_left
       ·intro w'
        go_simp
        with_reducible rfl
       rotate_left
       ·simp only [Act.put, sI, s0_, s1_, i64_w, i32_w]
        rfl
       exact norm_ (by simp only [putAll, Act.put, sI, s0_, s1_]) (hCont (.slice Ao29 t344.length co29, .slice Ao28 t347.length co28, gb350) _ ⟨hHeld, (by (with_reducible repeat (first | apply rA | apply rN | apply rD)); exact Kd.R_mono HO346.out (fun _ hk => hk.2)), (by (with_reducible repeat (first | apply rA | apply rN | apply rD)); exact Kd.R_mono HO349.out (fun _ hk => hk.2)), (by (with_reducible repeat (first | apply kB | apply kC | apply kE)); exact BK342.out), (by (with_reducible repeat (first | apply kB | apply kC | apply kE)); exact BK343.out), (by (with_reducible repeat (first | apply kB | apply kC | apply kE)); exact BK350.out), GW350.out, GE350.out, NB342_350.out, NB350_342.out, NB343_350.out, NB350_343.out, (by repeat (with_reducible first | exact HB.out | apply bA | apply bN | apply bD | refine bS ?_ GE342.out | refine bS ?_ GE343.out | refine bS ?_ GE350.out))⟩)
     ·skip
      refine box_step ?hg (N := 6) ?hd (cs := #[.slice none 0 0, .slice none 0 0, .int .i64 0]) (t := 27) ?hr ?_; (case hd => rfl); (case hg => rfl); (case hr => first | (go_simp; done) | (go_simp; rfl))
      intro gb350 hg w25 hbox hb
      have BK350 := am (hbox)
      have GW350 := am ((by rw [hg]; exact (below_size (by repeat (with_reducible first | exact HB.out | apply bA | apply bN | apply bD | refine bS ?_ GE342.out | refine bS ?_ GE343.out))) : w.heap.size ≤ gb350))
      have GE350 := am ((by rw [hg]; exact (below_size (by repeat (with_reducible first | exact HB.out | apply bA | apply bN | apply bD | refine bS ?_ GE342.out | refine bS ?_ GE343.out))) : w.heap.size ≤ gb350))
      replace HB := am (below_step (by repeat (with_reducible first | exact HB.out | apply bA | apply bN | apply bD | refine bS ?_ GE342.out | refine bS ?_ GE343.out)) hb)
      have NB342_350 := am ((by rw [hg]; exact Nat.ne_of_lt (blk_lt (g := gb342) (o := .cells #[.slice A0_0 l0_0.length c0_0, .slice A0_1 l0_1.length c0_1, .int .i64 a0_2] 27 (0, 0)) (by (with_reducible repeat (first | apply kB | apply kC | apply kE)); exact BK342.out)) : gb342 ≠ gb350))
      have NB350_342 := am ((by rw [hg]; exact Nat.ne_of_gt (blk_lt (g := gb342) (o := .cells #[.slice A0_0 l0_0.length c0_0, .slice A0_1 l0_1.length c0_1, .int .i64 a0_2] 27 (0, 0)) (by (with_reducible repeat (first | apply kB | apply kC | apply kE)); exact BK342.out)) : gb350 ≠ gb342))
      replace BK342 := am (blk_below (g := gb342) (o := .cells #[.slice A0_0 l0_0.length c0_0, .slice A0_1 l0_1.length c0_1, .int .i64 a0_2] 27 (0, 0)) (by (with_reducible repeat (first | apply kB | apply kC | apply kE)); exact BK342.out) hb)
      have NB343_350 := am ((by rw [hg]; exact Nat.ne_of_lt (blk_lt (g := gb343) (o := .cells #[.slice none 0 0, .slice none 0 0, .int .i64 0] 27 (0, 0)) (by (with_reducible repeat (first | apply kB | apply kC | apply kE)); exact BK343.out)) : gb343 ≠ gb350))
      have NB350_343 := am ((by rw [hg]; exact Nat.ne_of_gt (blk_lt (g := gb343) (o := .cells #[.slice none 0 0, .slice none 0 0, .int .i64 0] 27 (0, 0)) (by (with_reducible repeat (first | apply kB | apply kC | apply kE)); exact BK343.out)) : gb350 ≠ gb343))
      replace BK343 := am (blk_below (g := gb343) (o := .cells #[.slice none 0 0, .slice none 0 0, .int .i64 0] 27 (0, 0)) (by (with_reducible repeat (first | apply kB | apply kC | apply kE)); exact BK343.out) hb)
      clear hb hbox hg
      refine hK.out _ _ ⟨(blk_cell BK342.out 0).trans rfl, (blk_cell BK342.out 1).trans rfl, (blk_cell BK342.out 2).trans rfl⟩ (fun hHeld => ?_)
      clear hK K
      refine norm_ (a' := ?_) ?_ ?_
      rotate_left
      ·show Act.put _ (some 6) _ = _
       simp only [Act.put, sI, s0_, s1_, i64_w, i32_w]
       rfl
      refine one_ (i := 2) (N := some 36) #[true, true, true, true, true, false, true, true, false, true, false] rfl rfl (one_of HT_.out (by kernel_rfl)) (by decide) (fun K hK => ?_)
      refine goes_ Try.func40 (by kernel_rfl) rfl #[.slice A0_0 l0_0.length c0_0] (by rfl) rfl rfl (by (try simp only [mT, mC, mZ]); first | done | rfl) ?_
      with_reducible refine (slices_Clone_int_int.calls _ _ l0_0 t344 _ ?side1 ?side2 A21.out).mono ?_
      (case side1 => repeat (first | exact (Kd.C_below HR0_0.out HB.out) | (with_reducible first | apply cA | apply cN | apply cD)))
      (case side2 => exact HC0_0.out)
      rintro e w26 ⟨v345, rfl, ho0, hb⟩
      refine ⟨_, rfl, ?_⟩
      have HO346 := am (Kd.R_lower ho0 (below_size (by repeat (with_reducible first | exact HB.out | apply bA | apply bN | apply bD | refine bS ?_ GE342.out | refine bS ?_ GE343.out | refine bS ?_ GE350.out))))
      replace BK342 := am (blk_below (g := gb342) (o := .cells #[.slice A0_0 l0_0.length c0_0, .slice A0_1 l0_1.length c0_1, .int .i64 a0_2] 27 (0, 0)) (by (with_reducible repeat (first | apply kB | apply kC | apply kE)); exact BK342.out) hb)
      replace BK343 := am (blk_below (g := gb343) (o := .cells #[.slice none 0 0, .slice none 0 0, .int .i64 0] 27 (0, 0)) (by (with_reducible repeat (first | apply kB | apply kC | apply kE)); exact BK343.out) hb)
      replace BK350 := am (blk_below (g := gb350) (o := .cells #[.slice none 0 0, .slice none 0 0, .int .i64 0] 27 (0, 0)) (by (with_reducible repeat (first | apply kB | apply kC | apply kE)); exact BK350.out) hb)
      replace HB := am (below_step (by repeat (with_reducible first | exact HB.out | apply bA | apply bN | apply bD | refine bS ?_ GE342.out | refine bS ?_ GE343.out | refine bS ?_ GE350.out)) hb)
      (try clear hb)
      (try clear hb2)
      (try clear hk)
      (try clear hi)
      (try clear ho0)
      refine hK.out _ _ ⟨(blk_cell BK342.out 0).trans rfl, (blk_cell BK342.out 1).trans rfl, (blk_cell BK342.out 2).trans rfl⟩ (fun hHeld => ?_)
      clear hK K
      refine norm_ (a' := ?_) ?_ ?_
      rotate_left
      ·show Act.put _ (some 36) _ = _
       simp only [Act.put, sI, s0_, s1_, i64_w, i32_w]
       rfl
      refine one_ (i := 5) (N := some 39) #[true, true, true, true, true, true, true, true, false, true, false] rfl rfl (one_of HT_.out (by kernel_rfl)) (by decide) (fun K hK => ?_)
      refine goes_ Try.func40 (by kernel_rfl) rfl #[.slice A0_1 l0_1.length c0_1] (by rfl) rfl rfl (by (try simp only [mT, mC, mZ]); first | done | rfl) ?_
      with_reducible refine (slices_Clone_int_int.calls _ _ l0_1 t347 _ ?side1 ?side2 A22.out).mono ?_
      (case side1 => repeat (first | exact (Kd.C_below HR0_1.out HB.out) | (with_reducible first | apply cA | apply cN | apply cD)))
      (case side2 => exact HC0_1.out)
      rintro e w27 ⟨v348, rfl, ho0, hb⟩
      refine ⟨_, rfl, ?_⟩
      have HO349 := am (Kd.R_lower (Kd.R_new' ho0 (Kd.R_lt (by (with_reducible repeat (first | apply rA | apply rN | apply rD)); exact HO346.out))) (below_size (by repeat (with_reducible first | exact HB.out | apply bA | apply bN | apply bD | refine bS ?_ GE342.out | refine bS ?_ GE343.out | refine bS ?_ GE350.out))))
      replace HO346 := am (Kd.R_elder' (by (with_reducible repeat (first | apply rA | apply rN | apply rD)); exact HO346.out) (Kd.R_base ho0) hb)
      replace BK342 := am (blk_below (g := gb342) (o := .cells #[.slice A0_0 l0_0.length c0_0, .slice A0_1 l0_1.length c0_1, .int .i64 a0_2] 27 (0, 0)) (by (with_reducible repeat (first | apply kB | apply kC | apply kE)); exact BK342.out) hb)
      replace BK343 := am (blk_below (g := gb343) (o := .cells #[.slice none 0 0, .slice none 0 0, .int .i64 0] 27 (0, 0)) (by (with_reducible repeat (first | apply kB | apply kC | apply kE)); exact BK343.out) hb)
      replace BK350 := am (blk_below (g := gb350) (o := .cells #[.slice none 0 0, .slice none 0 0, .int .i64 0] 27 (0, 0)) (by (with_reducible repeat (first | apply kB | apply kC | apply kE)); exact BK350.out) hb)
      replace HB := am (below_step (by repeat (with_reducible first | exact HB.out | apply bA | apply bN | apply bD | refine bS ?_ GE342.out | refine bS ?_ GE343.out | refine bS ?_ GE350.out)) hb)
      (try clear hb)
      (try clear hb2)
      (try clear hk)
      (try clear hi)
      (try clear ho0)
      obtain ⟨Ao28, co28, eo28⟩ := Kd.R_slice HO349.out
      (first | subst eo28 | (injection eo28 with f1_ f2_ f3_; have f4_ := f1_.symm; have f5_ := f3_.symm; clear f1_ f2_ f3_; subst f4_; subst f5_))
      obtain ⟨Ao29, co29, eo29⟩ := Kd.R_slice HO346.out
      (first | subst eo29 | (injection eo29 with f1_ f2_ f3_; have f4_ := f1_.symm; have f5_ := f3_.symm; clear f1_ f2_ f3_; subst f4_; subst f5_))
      refine hK.out _ _ ⟨(blk_cell BK342.out 0).trans rfl, (blk_cell BK342.out 1).trans rfl, (blk_cell BK342.out 2).trans rfl⟩ (fun hHeld => ?_)
      clear hK K
      refine norm_ (a' := ?_) ?_ ?_
      rotate_left
      ·show Act.put _ (some 39) _ = _
       simp only [Act.put, sI, s0_, s1_, i64_w, i32_w]
       rfl
      refine pure_ (i := 8) (N := some 42) (v := ?_) (a' := ?_) #[true, true, true, true, true, true, true, true, true, true, false] rfl rfl (any_of HT_.out (by kernel_rfl)) (fun _ _ _ h => h) (Or.inl ⟨by rfl, ?_⟩) ?_ ?_
      rotate_left
      ·intro w'
       go_simp
       with_reducible rfl
      rotate_left
      ·simp only [Act.put, sI, s0_, s1_, i64_w, i32_w]
       rfl
      exact norm_ (by simp only [putAll, Act.put, sI, s0_, s1_]) (hCont (.slice Ao29 t344.length co29, .slice Ao28 t347.length co28, gb350) _ ⟨hHeld, (by (with_reducible repeat (first | apply rA | apply rN | apply rD)); exact Kd.R_mono HO346.out (fun _ hk => hk.2)), (by (with_reducible repeat (first | apply rA | apply rN | apply rD)); exact Kd.R_mono HO349.out (fun _ hk => hk.2)), (by (with_reducible repeat (first | apply kB | apply kC | apply kE)); exact BK342.out), (by (with_reducible repeat (first | apply kB | apply kC | apply kE)); exact BK343.out), (by (with_reducible repeat (first | apply kB | apply kC | apply kE)); exact BK350.out), GW350.out, GE350.out, NB342_350.out, NB350_342.out, NB343_350.out, NB350_343.out, (by repeat (with_reducible first | exact HB.out | apply bA | apply bN | apply bD | refine bS ?_ GE342.out | refine bS ?_ GE343.out | refine bS ?_ GE350.out))⟩)
    rintro ⟨v345, v348, gb350⟩ w30 ⟨hS_, h0_, h1_, h2_, h3_, h4_, h5_, h6_, h7_, h8_, h9_, h10_, h11_⟩
    have HO346 := (⟨h0_⟩ : Aside0 (Kd.R (Kd.int .i64) 3 w30 w.heap.size (fun k_ => some k_ ≠ (v348 : Value).ownBlock) v345 t344))
    have HO349 := (⟨h1_⟩ : Aside0 (Kd.R (Kd.int .i64) 3 w30 w.heap.size (fun k_ => some k_ ≠ (v345 : Value).ownBlock) v348 t347))
    replace BK342 := (⟨h2_⟩ : Aside0 (w30.heap[gb342]? = some (.cells #[.slice A0_0 l0_0.length c0_0, .slice A0_1 l0_1.length c0_1, .int .i64 a0_2] 27 (0, 0))))
    replace BK343 := (⟨h3_⟩ : Aside0 (w30.heap[gb343]? = some (.cells #[.slice none 0 0, .slice none 0 0, .int .i64 0] 27 (0, 0))))
    have BK350 := (⟨h4_⟩ : Aside0 (w30.heap[gb350]? = some (.cells #[.slice none 0 0, .slice none 0 0, .int .i64 0] 27 (0, 0))))
    have GW350 := (⟨h5_⟩ : Aside0 (w.heap.size ≤ gb350))
    have GE350 := (⟨h6_⟩ : Aside0 (w.heap.size ≤ gb350))
    have NB342_350 := (⟨h7_⟩ : Aside0 (gb342 ≠ gb350))
    have NB350_342 := (⟨h8_⟩ : Aside0 (gb350 ≠ gb342))
    have NB343_350 := (⟨h9_⟩ : Aside0 (gb343 ≠ gb350))
    have NB350_343 := (⟨h10_⟩ : Aside0 (gb350 ≠ gb343))
    replace HB := (⟨h11_⟩ : Aside0 (Below w.heap.size w w30))
    clear h0_ h1_ h2_ h3_ h4_ h5_ h6_ h7_ h8_ h9_ h10_ h11_
    have hHeld : w30.cell? ⟨gb342, 0, none⟩ = some (.slice A0_0 l0_0.length c0_0) ∧ w30.cell? ⟨gb342, 1, none⟩ = some (.slice A0_1 l0_1.length c0_1) ∧ w30.cell? ⟨gb342, 2, none⟩ = some (.int .i64 a0_2) := hS_
    obtain ⟨Ao31, co31, eo31⟩ := Kd.R_slice HO349.out
    (first | subst eo31 | (injection eo31 with f1_ f2_ f3_; have f4_ := f1_.symm; have f5_ := f3_.symm; clear f1_ f2_ f3_; subst f4_; subst f5_))
    obtain ⟨Ao32, co32, eo32⟩ := Kd.R_slice HO346.out
    (first | subst eo32 | (injection eo32 with f1_ f2_ f3_; have f4_ := f1_.symm; have f5_ := f3_.symm; clear f1_ f2_ f3_; subst f4_; subst f5_))
    refine norm_ (a' := ?_) ?_ ?_
    rotate_left
    ·simp only [putAll, Act.put, sI, s0_, s1_]
     rfl
    refine one_ (i := 10) (N := none) #[true, true, true, true, true, true, true, true, true, true, true] rfl rfl (one_of HT_.out (by kernel_rfl)) (by decide) (fun K hK => ?_)
    have hs33 : w30.cell? ⟨gb350, 0, none⟩ = some (.slice none 0 0) := (blk_cell BK350.out 0).trans rfl
    have hfs33 := blk_frozen BK350.out 0
    have hns33_0 := NB342_350.out
    have hns33_1 := NB343_350.out
    have hms33_0 := NB350_342.out
    have hms33_1 := NB350_343.out
    have hs34 : w30.cell? ⟨gb350, 1, none⟩ = some (.slice none 0 0) := (blk_cell BK350.out 1).trans rfl
    have hfs34 := blk_frozen BK350.out 1
    have hns34_0 := NB342_350.out
    have hns34_1 := NB343_350.out
    have hms34_0 := NB350_342.out
    have hms34_1 := NB350_343.out
    have hs35 : w30.cell? ⟨gb350, 2, none⟩ = some (.int .i64 0) := (blk_cell BK350.out 2).trans rfl
    have hfs35 := blk_frozen BK350.out 2
    have hns35_0 := NB342_350.out
    have hns35_1 := NB343_350.out
    have hms35_0 := NB350_342.out
    have hms35_1 := NB350_343.out
    refine skip_ (w1 := ?_) (by rfl) rfl ?_ ?_
    rotate_left
    ·go_simp
     rfl
    refine hK.out _ _ ⟨((cell_far (p := ⟨gb350, _, none⟩) NB342_350.out _).trans (((cell_far (p := ⟨gb350, _, none⟩) NB342_350.out _).trans (((cell_far (p := ⟨gb350, _, none⟩) NB342_350.out _).trans (hHeld.1)))))), ((cell_far (p := ⟨gb350, _, none⟩) NB342_350.out _).trans (((cell_far (p := ⟨gb350, _, none⟩) NB342_350.out _).trans (((cell_far (p := ⟨gb350, _, none⟩) NB342_350.out _).trans (hHeld.2.1)))))), ((cell_far (p := ⟨gb350, _, none⟩) NB342_350.out _).trans (((cell_far (p := ⟨gb350, _, none⟩) NB342_350.out _).trans (((cell_far (p := ⟨gb350, _, none⟩) NB342_350.out _).trans (hHeld.2.2))))))⟩ (fun hHeld => ?_)
    clear hK K
    refine done_ (done_of HT_.out (by kernel_rfl)) ?_
    go_upto_if 45 with (fail)
    go_cut [7] (fun v7 wc => ∃ (kq : Nat) (x7_22 : Int) (x351000_22 : List Int) (u351000 : Value), v7 = .int .i64 x7_22 ∧ Aside0 (impl_State_stepped.j1 kq a1 x7_22 100 x351000_22 t347 a0_2 = some (r1, r2, r3, r4)) ∧ Aside0 (kq ≤ kj2) ∧ Aside0 (Kd.R (Kd.int .i64) 3 wc w.heap.size (fun k_ => some k_ ≠ ((.slice Ao31 t347.length co31) : Value).ownBlock) u351000 x351000_22) ∧ Aside0 (Kd.R (Kd.int .i64) 3 wc w.heap.size (fun k_ => some k_ ≠ (u351000 : Value).ownBlock) (.slice Ao31 t347.length co31) t347) ∧ Aside0 (wc.heap[gb342]? = some (.cells #[(.slice A0_0 l0_0.length c0_0), (.slice A0_1 l0_1.length c0_1), .int .i64 a0_2] 27 (0, 0))) ∧ Aside0 (wc.heap[gb343]? = some (.cells #[(.slice none 0 0), (.slice none 0 0), .int .i64 0] 27 (0, 0))) ∧ Aside0 (wc.heap[gb350]? = some (.cells #[u351000, (.slice Ao31 t347.length co31), .int .i64 a0_2] 27 (0, 0))) ∧ Aside0 (Below w.heap.size w wc))
    case first =>
     have H := HC23.out
     clear HC23
     by_cases c36 : (Go.bits .and .i64 a1 2) = 0
     ·rw [if_pos c36] at H
      have c36b0 : ((Go.bits .and .i64 a1 2) == 0) = true := beq_iff_eq.mpr c36
      have c36b1 : ((Go.bits .and .i64 a1 2) != 0) = false := bne_eq_false_iff_eq.mpr c36
      clear c36
      (first | rw [c36b0] | (simp only [i64_w, i32_w]; rw [c36b0]) | skip)
      have H' := am H
      clear H
      go_wp2
      go_meet
      case rel => exact ⟨_, (100), (t344), (.slice Ao32 t344.length co32), (by first | rfl | (simp; done) | (simp [*]; done)), H', ⟨by have := HJ2.out; first | omega | exact Nat.le_refl _⟩, ⟨by (with_reducible repeat (first | apply rA | apply rN | apply rD)); exact Kd.R_mono (Kd.R_far (p := ⟨gb350, 2, none⟩) (Kd.R_far (p := ⟨gb350, 1, none⟩) (Kd.R_far (p := ⟨gb350, 0, none⟩) (Kd.R_types HO346.out BK350.out (by decide)) (fun _ hk => hk.2) (.slice Ao32 t344.length co32)) (fun _ hk => hk.2) (.slice Ao31 t347.length co31)) (fun _ hk => hk.2) (.int .i64 a0_2)) (fun _ hk => hk.1)⟩, ⟨by (with_reducible repeat (first | apply rA | apply rN | apply rD)); exact Kd.R_mono (Kd.R_far (p := ⟨gb350, 2, none⟩) (Kd.R_far (p := ⟨gb350, 1, none⟩) (Kd.R_far (p := ⟨gb350, 0, none⟩) (Kd.R_types HO349.out BK350.out (by decide)) (fun _ hk => hk.2) (.slice Ao32 t344.length co32)) (fun _ hk => hk.2) (.slice Ao31 t347.length co31)) (fun _ hk => hk.2) (.int .i64 a0_2)) (fun _ hk => hk.1)⟩, ⟨by (with_reducible repeat (first | apply kB | apply kC | apply kE)); refine blk_far ?_ NB342_350.out _; (with_reducible repeat (first | apply kB | apply kC | apply kE)); refine blk_far ?_ NB342_350.out _; (with_reducible repeat (first | apply kB | apply kC | apply kE)); refine blk_far ?_ NB342_350.out _; (with_reducible repeat (first | apply kB | apply kC | apply kE)); exact BK342.out⟩, ⟨by (with_reducible repeat (first | apply kB | apply kC | apply kE)); refine blk_far ?_ NB343_350.out _; (with_reducible repeat (first | apply kB | apply kC | apply kE)); refine blk_far ?_ NB343_350.out _; (with_reducible repeat (first | apply kB | apply kC | apply kE)); refine blk_far ?_ NB343_350.out _; (with_reducible repeat (first | apply kB | apply kC | apply kE)); exact BK343.out⟩, ⟨by (with_reducible repeat (first | apply kB | apply kC | apply kE)); refine blk_put (cs := #[.slice Ao32 t344.length co32, .slice Ao31 t347.length co31, .int .i64 0]) ?_ 2 _ rfl; (with_reducible repeat (first | apply kB | apply kC | apply kE)); refine blk_put (cs := #[.slice Ao32 t344.length co32, .slice none 0 0, .int .i64 0]) ?_ 1 _ rfl; (with_reducible repeat (first | apply kB | apply kC | apply kE)); refine blk_put (cs := #[.slice none 0 0, .slice none 0 0, .int .i64 0]) ?_ 0 _ rfl; (with_reducible repeat (first | apply kB | apply kC | apply kE)); exact BK350.out⟩, ⟨by repeat (with_reducible first | exact HB.out | apply bA | apply bN | apply bD | refine bS ?_ GE342.out | refine bS ?_ GE343.out | refine bS ?_ GE350.out)⟩⟩
     ·rw [if_neg c36] at H
      have c36b0 : ((Go.bits .and .i64 a1 2) == 0) = false := beq_eq_false_iff_ne.mpr c36
      have c36b1 : ((Go.bits .and .i64 a1 2) != 0) = true := bne_iff_ne.mpr c36
      (first | rw [c36b0] | (simp only [i64_w, i32_w]; rw [c36b0]) | skip)
      replace H := Option.bind_eq_some_iff.mp H
      obtain ⟨⟨t351, t352⟩, A370, H⟩ := H
      replace H : (impl_State_stepped.j1 kj2 a1 t352 100 t351 t347 a0_2) = some (r1, r2, r3, r4) := H
      have A37 := am A370
      clear A370
      have H' := am H
      clear H
      have hnb38 := NB350_342.out
      have hnc38 := NB342_350.out
      have hnb39 := NB350_343.out
      have hnc39 := NB343_350.out
      have hcz40_0 : w30.cell? ⟨gb350, 0, none⟩ = some (.slice none 0 0) := (blk_cell BK350.out 0).trans rfl
      have hcz40_1 : w30.cell? ⟨gb350, 1, none⟩ = some (.slice none 0 0) := (blk_cell BK350.out 1).trans rfl
      have hcz40_2 : w30.cell? ⟨gb350, 2, none⟩ = some (.int .i64 0) := (blk_cell BK350.out 2).trans rfl
      have hfz40_0 := blk_frozen BK350.out 0
      have hfz40_1 := blk_frozen BK350.out 1
      have hfz40_2 := blk_frozen BK350.out 2
      go_wp2_with (first | ((with_reducible refine gate_callee (f := 75) rfl ?_); refine goesL_ (some 49) rfl rfl Try.func75 (by kernel_rfl) rfl #[.slice Ao32 t344.length co32] rfl (by (try simp only [mT, mC, mZ]); first | done | rfl) ?_; (with_reducible refine (impl_last.calls _ _ t344 t351 t352 _ ?side1 ?side2 A37.out).mono ?_); (case side1 => refine (Kd.R_reads' (e := 3) (base := w.heap.size) (ok := fun k_ => some k_ ≠ (.slice Ao31 t347.length co31 : Value).ownBlock) (n := t344.length) (c := co32) ?_).2.2; exact (by (with_reducible repeat (first | apply rA | apply rN | apply rD)); exact (Kd.R_mono (Kd.R_far (p := ⟨gb350, 2, none⟩) (Kd.R_far (p := ⟨gb350, 1, none⟩) (Kd.R_far (p := ⟨gb350, 0, none⟩) (Kd.R_types HO346.out BK350.out (by decide)) (fun _ hk => hk.2) (.slice Ao32 t344.length co32)) (fun _ hk => hk.2) (.slice Ao31 t347.length co31)) (fun _ hk => hk.2) (.int .i64 a0_2)) (fun _ h_ => h_.1)))); (case side2 => exact (Kd.R_reads' HO346.out).2.1); rintro e w41 ⟨v353, rfl, ho0, hb⟩; refine ⟨_, rfl, ?_⟩; have HO354 := am (Kd.R_lower (Kd.R_new' (Kd.R_new' ho0 (Kd.R_lt (by (with_reducible repeat (first | apply rA | apply rN | apply rD)); exact (Kd.R_mono (Kd.R_far (p := ⟨gb350, 2, none⟩) (Kd.R_far (p := ⟨gb350, 1, none⟩) (Kd.R_far (p := ⟨gb350, 0, none⟩) (Kd.R_types HO346.out BK350.out (by decide)) (fun _ hk => hk.2) (.slice Ao32 t344.length co32)) (fun _ hk => hk.2) (.slice Ao31 t347.length co31)) (fun _ hk => hk.2) (.int .i64 a0_2)) (fun _ h_ => h_.1))))) (Kd.R_lt (by (with_reducible repeat (first | apply rA | apply rN | apply rD)); exact (Kd.R_mono (Kd.R_far (p := ⟨gb350, 2, none⟩) (Kd.R_far (p := ⟨gb350, 1, none⟩) (Kd.R_far (p := ⟨gb350, 0, none⟩) (Kd.R_types HO349.out BK350.out (by decide)) (fun _ hk => hk.2) (.slice Ao32 t344.length co32)) (fun _ hk => hk.2) (.slice Ao31 t347.length co31)) (fun _ hk => hk.2) (.int .i64 a0_2)) (fun _ h_ => h_.1))))) (below_size (by repeat (with_reducible first | exact HB.out | apply bA | apply bN | apply bD | refine bS ?_ GE342.out | refine bS ?_ GE343.out | refine bS ?_ GE350.out)))); replace HO346 := am (Kd.R_elder' (by (with_reducible repeat (first | apply rA | apply rN | apply rD)); exact (Kd.R_mono (Kd.R_far (p := ⟨gb350, 2, none⟩) (Kd.R_far (p := ⟨gb350, 1, none⟩) (Kd.R_far (p := ⟨gb350, 0, none⟩) (Kd.R_types HO346.out BK350.out (by decide)) (fun _ hk => hk.2) (.slice Ao32 t344.length co32)) (fun _ hk => hk.2) (.slice Ao31 t347.length co31)) (fun _ hk => hk.2) (.int .i64 a0_2)) (fun _ h_ => h_.1))) (Kd.R_base ho0) hb); replace HO349 := am (Kd.R_elder' (by (with_reducible repeat (first | apply rA | apply rN | apply rD)); exact (Kd.R_mono (Kd.R_far (p := ⟨gb350, 2, none⟩) (Kd.R_far (p := ⟨gb350, 1, none⟩) (Kd.R_far (p := ⟨gb350, 0, none⟩) (Kd.R_types HO349.out BK350.out (by decide)) (fun _ hk => hk.2) (.slice Ao32 t344.length co32)) (fun _ hk => hk.2) (.slice Ao31 t347.length co31)) (fun _ hk => hk.2) (.int .i64 a0_2)) (fun _ h_ => h_.1))) (Kd.R_base ho0) hb); replace BK342 := am (blk_below (g := gb342) (o := .cells #[.slice A0_0 l0_0.length c0_0, .slice A0_1 l0_1.length c0_1, .int .i64 a0_2] 27 (0, 0)) (by (with_reducible repeat (first | apply kB | apply kC | apply kE)); refine blk_far ?_ NB342_350.out _; (with_reducible repeat (first | apply kB | apply kC | apply kE)); refine blk_far ?_ NB342_350.out _; (with_reducible repeat (first | apply kB | apply kC | apply kE)); refine blk_far ?_ NB342_350.out _; (with_reducible repeat (first | apply kB | apply kC | apply kE)); exact BK342.out) hb); replace BK343 := am (blk_below (g := gb343) (o := .cells #[.slice none 0 0, .slice none 0 0, .int .i64 0] 27 (0, 0)) (by (with_reducible repeat (first | apply kB | apply kC | apply kE)); refine blk_far ?_ NB343_350.out _; (with_reducible repeat (first | apply kB | apply kC | apply kE)); refine blk_far ?_ NB343_350.out _; (with_reducible repeat (first | apply kB | apply kC | apply kE)); refine blk_far ?_ NB343_350.out _; (with_reducible repeat (first | apply kB | apply kC | apply kE)); exact BK343.out) hb); replace BK350 := am (blk_below (g := gb350) (o := .cells #[.slice Ao32 t344.length co32, .slice Ao31 t347.length co31, .int .i64 a0_2] 27 (0, 0)) (by (with_reducible repeat (first | apply kB | apply kC | apply kE)); refine blk_put (cs := #[.slice Ao32 t344.length co32, .slice Ao31 t347.length co31, .int .i64 0]) ?_ 2 _ rfl; (with_reducible repeat (first | apply kB | apply kC | apply kE)); refine blk_put (cs := #[.slice Ao32 t344.length co32, .slice none 0 0, .int .i64 0]) ?_ 1 _ rfl; (with_reducible repeat (first | apply kB | apply kC | apply kE)); refine blk_put (cs := #[.slice none 0 0, .slice none 0 0, .int .i64 0]) ?_ 0 _ rfl; (with_reducible repeat (first | apply kB | apply kC | apply kE)); exact BK350.out) hb); replace HB := am (below_step (by repeat (with_reducible first | exact HB.out | apply bA | apply bN | apply bD | refine bS ?_ GE342.out | refine bS ?_ GE343.out | refine bS ?_ GE350.out)) hb); (try clear hb); (try clear hb2); (try clear hk); (try clear hi); (try clear ho0); obtain ⟨Ao42, co42, eo42⟩ := Kd.R_slice HO354.out; subst eo42; have hcz43_0 : w41.cell? ⟨gb350, 0, none⟩ = some (.slice Ao32 t344.length co32) := (blk_cell BK350.out 0).trans rfl; have hcz43_1 : w41.cell? ⟨gb350, 1, none⟩ = some (.slice Ao31 t347.length co31) := (blk_cell BK350.out 1).trans rfl; have hcz43_2 : w41.cell? ⟨gb350, 2, none⟩ = some (.int .i64 a0_2) := (blk_cell BK350.out 2).trans rfl; have hfz43_0 := blk_frozen BK350.out 0; have hfz43_1 := blk_frozen BK350.out 1; have hfz43_2 := blk_frozen BK350.out 2))
      go_meet
      case rel => exact ⟨_, (t352), (t351), (.slice Ao42 t351.length co42), (by first | rfl | (simp; done) | (simp [*]; done)), H', ⟨by have := HJ2.out; first | omega | exact Nat.le_refl _⟩, ⟨by (with_reducible repeat (first | apply rA | apply rN | apply rD)); exact Kd.R_mono (Kd.R_far (p := ⟨gb350, 0, none⟩) (Kd.R_types HO354.out BK350.out (by decide)) (fun _ hk => hk.2) (.slice Ao42 t351.length co42)) (fun _ hk => hk.1.2)⟩, ⟨by (with_reducible repeat (first | apply rA | apply rN | apply rD)); exact Kd.R_mono (Kd.R_far (p := ⟨gb350, 0, none⟩) (Kd.R_types HO349.out BK350.out (by decide)) (fun _ hk => hk.2) (.slice Ao42 t351.length co42)) (fun _ hk => hk.1.2)⟩, ⟨by (with_reducible repeat (first | apply kB | apply kC | apply kE)); refine blk_far ?_ NB342_350.out _; (with_reducible repeat (first | apply kB | apply kC | apply kE)); exact BK342.out⟩, ⟨by (with_reducible repeat (first | apply kB | apply kC | apply kE)); refine blk_far ?_ NB343_350.out _; (with_reducible repeat (first | apply kB | apply kC | apply kE)); exact BK343.out⟩, ⟨by (with_reducible repeat (first | apply kB | apply kC | apply kE)); refine blk_put (cs := #[.slice Ao32 t344.length co32, .slice Ao31 t347.length co31, .int .i64 a0_2]) ?_ 0 _ rfl; (with_reducible repeat (first | apply kB | apply kC | apply kE)); exact BK350.out⟩, ⟨by repeat (with_reducible first | exact HB.out | apply bA | apply bN | apply bD | refine bS ?_ GE342.out | refine bS ?_ GE343.out | refine bS ?_ GE350.out)⟩⟩
    case rest =>
     clear HC23
     try clear p2
     try clear hcz12_0
     try clear hcz12_1
     try clear hcz12_2
     try clear hcz15_0
     try clear hcz15_1
     try clear hcz15_2
     try clear hcz17_0
     try clear hcz17_1
     try clear hcz17_2
     try clear hcz20_0
     try clear hcz20_1
     try clear hcz20_2
     try clear hcz40_0
     try clear hcz40_1
     try clear hcz40_2
     try clear hcz43_0
     try clear hcz43_1
     try clear hcz43_2
     try clear hcz9_0
     try clear hcz9_1
     try clear hcz9_2
     try clear hfz12_0
     try clear hfz12_1
     try clear hfz12_2
     try clear hfz15_0
     try clear hfz15_1
     try clear hfz15_2
     try clear hfz17_0
     try clear hfz17_1
     try clear hfz17_2
     try clear hfz20_0
     try clear hfz20_1
     try clear hfz20_2
     try clear hfz40_0
     try clear hfz40_1
     try clear hfz40_2
     try clear hfz43_0
     try clear hfz43_1
     try clear hfz43_2
     try clear hfz9_0
     try clear hfz9_1
     try clear hfz9_2
     try clear p2
     obtain ⟨kq, x7_22, x351000_22, u351000, rfl, HA, HJ22, HO_351000, HO_351001, BK342, BK343, BK350, HB⟩ := hcut
     cases kq with
     | zero => exact absurd HA.out (by simp [impl_State_stepped.j1])
     | succ kj22 =>
      have H := HA.out
      clear HA
      simp only [impl_State_stepped.j1] at H
      have HC44 := am H
      clear H
      go_upto_if 55 with (fail)
      go_cut [8] (fun v8 wc => ∃ (kq : Nat) (x8_43 : Int) (x351001_43 : List Int) (u351001 : Value), v8 = .int .i64 x8_43 ∧ Aside0 (impl_State_stepped.j2 kq a1 x7_22 x8_43 x351000_22 x351001_43 a0_2 = some (r1, r2, r3, r4)) ∧ Aside0 (kq ≤ kj22) ∧ Aside0 (Kd.R (Kd.int .i64) 3 wc w.heap.size (fun k_ => some k_ ≠ (u351001 : Value).ownBlock) u351000 x351000_22) ∧ Aside0 (Kd.R (Kd.int .i64) 3 wc w.heap.size (fun k_ => some k_ ≠ (u351000 : Value).ownBlock) u351001 x351001_43) ∧ Aside0 (wc.heap[gb342]? = some (.cells #[(.slice A0_0 l0_0.length c0_0), (.slice A0_1 l0_1.length c0_1), .int .i64 a0_2] 27 (0, 0))) ∧ Aside0 (wc.heap[gb343]? = some (.cells #[(.slice none 0 0), (.slice none 0 0), .int .i64 0] 27 (0, 0))) ∧ Aside0 (wc.heap[gb350]? = some (.cells #[u351000, u351001, .int .i64 a0_2] 27 (0, 0))) ∧ Aside0 (Below w.heap.size w wc))
      case first =>
       have H := HC44.out
       clear HC44
       by_cases c45 : (Go.bits .and .i64 a1 1) = 0
       ·rw [if_pos c45] at H
        have c45b0 : ((Go.bits .and .i64 a1 1) == 0) = true := beq_iff_eq.mpr c45
        have c45b1 : ((Go.bits .and .i64 a1 1) != 0) = false := bne_eq_false_iff_eq.mpr c45
        clear c45
        (first | rw [c45b0] | (simp only [i64_w, i32_w]; rw [c45b0]) | skip)
        have H' := am H
        clear H
        go_wp2
        go_meet
        case rel => exact ⟨_, (100), (t347), (.slice Ao31 t347.length co31), (by first | rfl | (simp; done) | (simp [*]; done)), H', ⟨by have := HJ2.out; have := HJ22.out; first | omega | exact Nat.le_refl _⟩, ⟨by (with_reducible repeat (first | apply rA | apply rN | apply rD)); exact HO_351000.out⟩, ⟨by (with_reducible repeat (first | apply rA | apply rN | apply rD)); exact HO_351001.out⟩, ⟨by (with_reducible repeat (first | apply kB | apply kC | apply kE)); exact BK342.out⟩, ⟨by (with_reducible repeat (first | apply kB | apply kC | apply kE)); exact BK343.out⟩, ⟨by (with_reducible repeat (first | apply kB | apply kC | apply kE)); exact BK350.out⟩, ⟨by repeat (with_reducible first | exact HB.out | apply bA | apply bN | apply bD | refine bS ?_ GE342.out | refine bS ?_ GE343.out | refine bS ?_ GE350.out)⟩⟩
       ·rw [if_neg c45] at H
        have c45b0 : ((Go.bits .and .i64 a1 1) == 0) = false := beq_eq_false_iff_ne.mpr c45
        have c45b1 : ((Go.bits .and .i64 a1 1) != 0) = true := bne_iff_ne.mpr c45
        (first | rw [c45b0] | (simp only [i64_w, i32_w]; rw [c45b0]) | skip)
        replace H := Option.bind_eq_some_iff.mp H
        obtain ⟨⟨t355, t356⟩, A460, H⟩ := H
        replace H : (impl_State_stepped.j2 kj22 a1 x7_22 t356 x351000_22 t355 a0_2) = some (r1, r2, r3, r4) := H
        have A46 := am A460
        clear A460
        have H' := am H
        clear H
        have hnb47 := NB350_342.out
        have hnc47 := NB342_350.out
        have hnb48 := NB350_343.out
        have hnc48 := NB343_350.out
        have hcz49_0 : wc.cell? ⟨gb350, 0, none⟩ = some (u351000) := (blk_cell BK350.out 0).trans rfl
        have hcz49_1 : wc.cell? ⟨gb350, 1, none⟩ = some (.slice Ao31 t347.length co31) := (blk_cell BK350.out 1).trans rfl
        have hcz49_2 : wc.cell? ⟨gb350, 2, none⟩ = some (.int .i64 a0_2) := (blk_cell BK350.out 2).trans rfl
        have hfz49_0 := blk_frozen BK350.out 0
        have hfz49_1 := blk_frozen BK350.out 1
        have hfz49_2 := blk_frozen BK350.out 2
        go_wp2_with (first | ((with_reducible refine gate_callee (f := 75) rfl ?_); refine goesL_ (some 59) rfl rfl Try.func75 (by kernel_rfl) rfl #[.slice Ao31 t347.length co31] rfl (by (try simp only [mT, mC, mZ]); first | done | rfl) ?_; (with_reducible refine (impl_last.calls _ _ t347 t355 t356 _ ?side1 ?side2 A46.out).mono ?_); (case side1 => repeat (first | exact (Kd.R_reads' HO_351001.out).2.2 | (with_reducible first | apply cA | apply cN | apply cD))); (case side2 => exact (Kd.R_reads' HO_351001.out).2.1); rintro e w50 ⟨v357, rfl, ho0, hb⟩; refine ⟨_, rfl, ?_⟩; have HO358 := am (Kd.R_lower (Kd.R_new' (Kd.R_new' ho0 (Kd.R_lt (by (with_reducible repeat (first | apply rA | apply rN | apply rD)); exact HO_351000.out))) (Kd.R_lt (by (with_reducible repeat (first | apply rA | apply rN | apply rD)); exact HO_351001.out))) (below_size (by repeat (with_reducible first | exact HB.out | apply bA | apply bN | apply bD | refine bS ?_ GE342.out | refine bS ?_ GE343.out | refine bS ?_ GE350.out)))); replace HO_351000 := am (Kd.R_elder' (by (with_reducible repeat (first | apply rA | apply rN | apply rD)); exact HO_351000.out) (Kd.R_base ho0) hb); replace HO_351001 := am (Kd.R_elder' (by (with_reducible repeat (first | apply rA | apply rN | apply rD)); exact HO_351001.out) (Kd.R_base ho0) hb); replace BK342 := am (blk_below (g := gb342) (o := .cells #[.slice A0_0 l0_0.length c0_0, .slice A0_1 l0_1.length c0_1, .int .i64 a0_2] 27 (0, 0)) (by (with_reducible repeat (first | apply kB | apply kC | apply kE)); exact BK342.out) hb); replace BK343 := am (blk_below (g := gb343) (o := .cells #[.slice none 0 0, .slice none 0 0, .int .i64 0] 27 (0, 0)) (by (with_reducible repeat (first | apply kB | apply kC | apply kE)); exact BK343.out) hb); replace BK350 := am (blk_below (g := gb350) (o := .cells #[u351000, .slice Ao31 t347.length co31, .int .i64 a0_2] 27 (0, 0)) (by (with_reducible repeat (first | apply kB | apply kC | apply kE)); exact BK350.out) hb); replace HB := am (below_step (by repeat (with_reducible first | exact HB.out | apply bA | apply bN | apply bD | refine bS ?_ GE342.out | refine bS ?_ GE343.out | refine bS ?_ GE350.out)) hb); (try clear hb); (try clear hb2); (try clear hk); (try clear hi); (try clear ho0); obtain ⟨Ao51, co51, eo51⟩ := Kd.R_slice HO358.out; subst eo51; have hcz52_0 : w50.cell? ⟨gb350, 0, none⟩ = some (u351000) := (blk_cell BK350.out 0).trans rfl; have hcz52_1 : w50.cell? ⟨gb350, 1, none⟩ = some (.slice Ao31 t347.length co31) := (blk_cell BK350.out 1).trans rfl; have hcz52_2 : w50.cell? ⟨gb350, 2, none⟩ = some (.int .i64 a0_2) := (blk_cell BK350.out 2).trans rfl; have hfz52_0 := blk_frozen BK350.out 0; have hfz52_1 := blk_frozen BK350.out 1; have hfz52_2 := blk_frozen BK350.out 2))
        go_meet
        case rel => exact ⟨_, (t356), (t355), (.slice Ao51 t355.length co51), (by first | rfl | (simp; done) | (simp [*]; done)), H', ⟨by have := HJ2.out; have := HJ22.out; first | omega | exact Nat.le_refl _⟩, ⟨by (with_reducible repeat (first | apply rA | apply rN | apply rD)); exact Kd.R_mono (Kd.R_far (p := ⟨gb350, 1, none⟩) (Kd.R_types HO_351000.out BK350.out (by decide)) (fun _ hk => hk.2) (.slice Ao51 t355.length co51)) (fun _ hk => hk.1.2)⟩, ⟨by (with_reducible repeat (first | apply rA | apply rN | apply rD)); exact Kd.R_mono (Kd.R_far (p := ⟨gb350, 1, none⟩) (Kd.R_types HO358.out BK350.out (by decide)) (fun _ hk => hk.2) (.slice Ao51 t355.length co51)) (fun _ hk => hk.1.1.2)⟩, ⟨by (with_reducible repeat (first | apply kB | apply kC | apply kE)); refine blk_far ?_ NB342_350.out _; (with_reducible repeat (first | apply kB | apply kC | apply kE)); exact BK342.out⟩, ⟨by (with_reducible repeat (first | apply kB | apply kC | apply kE)); refine blk_far ?_ NB343_350.out _; (with_reducible repeat (first | apply kB | apply kC | apply kE)); exact BK343.out⟩, ⟨by (with_reducible repeat (first | apply kB | apply kC | apply kE)); refine blk_put (cs := #[u351000, .slice Ao31 t347.length co31, .int .i64 a0_2]) ?_ 1 _ rfl; (with_reducible repeat (first | apply kB | apply kC | apply kE)); exact BK350.out⟩, ⟨by repeat (with_reducible first | exact HB.out | apply bA | apply bN | apply bD | refine bS ?_ GE342.out | refine bS ?_ GE343.out | refine bS ?_ GE350.out)⟩⟩
      case rest =>
       clear HC44
       try clear p2
       try clear hcz12_0
       try clear hcz12_1
       try clear hcz12_2
       try clear hcz15_0
       try clear hcz15_1
       try clear hcz15_2
       try clear hcz17_0
       try clear hcz17_1
       try clear hcz17_2
       try clear hcz20_0
       try clear hcz20_1
       try clear hcz20_2
       try clear hcz40_0
       try clear hcz40_1
       try clear hcz40_2
       try clear hcz43_0
       try clear hcz43_1
       try clear hcz43_2
       try clear hcz49_0
       try clear hcz49_1
       try clear hcz49_2
       try clear hcz52_0
       try clear hcz52_1
       try clear hcz52_2
       try clear hcz9_0
       try clear hcz9_1
       try clear hcz9_2
       try clear hfz12_0
       try clear hfz12_1
       try clear hfz12_2
       try clear hfz15_0
       try clear hfz15_1
       try clear hfz15_2
       try clear hfz17_0
       try clear hfz17_1
       try clear hfz17_2
       try clear hfz20_0
       try clear hfz20_1
       try clear hfz20_2
       try clear hfz40_0
       try clear hfz40_1
       try clear hfz40_2
       try clear hfz43_0
       try clear hfz43_1
       try clear hfz43_2
       try clear hfz49_0
       try clear hfz49_1
       try clear hfz49_2
       try clear hfz52_0
       try clear hfz52_1
       try clear hfz52_2
       try clear hfz9_0
       try clear hfz9_1
       try clear hfz9_2
       try clear p2
       obtain ⟨kq, x8_43, x351001_43, u351001, rfl, HA, HJ43, HO_351000, HO_351001, BK342, BK343, BK350, HB⟩ := hcut
       cases kq with
       | zero => exact absurd HA.out (by simp [impl_State_stepped.j2])
       | succ kj43 =>
        have H := HA.out
        clear HA
        simp only [impl_State_stepped.j2] at H
        have HC53 := am H
        clear H
        go_upto_block 0 with (fail)
        go_cut [] (fun wc => ∃ (kq : Nat) (x351000_52 : List Int) (x351001_52 : List Int) (x351002_52 : Int) (u351000 : Value) (u351001 : Value), Aside0 (impl_State_stepped.j3 kq x351000_52 x351001_52 x351002_52 = some (r1, r2, r3, r4)) ∧ Aside0 (kq ≤ kj43) ∧ Aside0 (Kd.R (Kd.int .i64) 3 wc w.heap.size (fun k_ => some k_ ≠ (u351001 : Value).ownBlock) u351000 x351000_52) ∧ Aside0 (Kd.R (Kd.int .i64) 3 wc w.heap.size (fun k_ => some k_ ≠ (u351000 : Value).ownBlock) u351001 x351001_52) ∧ Aside0 (wc.heap[gb342]? = some (.cells #[(.slice A0_0 l0_0.length c0_0), (.slice A0_1 l0_1.length c0_1), .int .i64 a0_2] 27 (0, 0))) ∧ Aside0 (wc.heap[gb343]? = some (.cells #[(.slice none 0 0), (.slice none 0 0), .int .i64 0] 27 (0, 0))) ∧ Aside0 (wc.heap[gb350]? = some (.cells #[u351000, u351001, .int .i64 x351002_52] 27 (0, 0))) ∧ Aside0 (Below w.heap.size w wc))
        case first =>
         have H := HC53.out
         clear HC53
         by_cases c54 : a1 = 0
         ·rw [if_pos c54] at H
          have c54b0 : (a1 == 0) = true := beq_iff_eq.mpr c54
          have c54b1 : (a1 != 0) = false := bne_eq_false_iff_eq.mpr c54
          clear c54
          (first | rw [c54b0] | (simp only [i64_w, i32_w]; rw [c54b0]) | skip)
          obtain ⟨y359, hy359⟩ : ∃ y_ : List Int, y_ = (([100] : List Int)) := ⟨_, rfl⟩
          replace H : (if x351000_22.length + y359.length < 17592186044416 then ((some (([100] : List Int) : List Int)).bind fun y365 => (if x351001_43.length + y365.length < 17592186044416 then (impl_State_stepped.j3 kj43 (x351000_22 ++ y359) (x351001_43 ++ y365) a0_2) else (none))) else (none)) = some (r1, r2, r3, r4) := by first | (rw [hy359]; with_reducible exact H) | (have H2_ := (Option.bind_some _ _).symm.trans H; rw [hy359]; with_reducible exact H2_) | (have H2_ := (Option.bind_some _ _).symm.trans H; with_reducible exact H2_) | with_reducible exact H | (rw [hy359]; exact H) | exact H
          have Ny359 := am hy359
          clear hy359
          by_cases c55 : x351000_22.length + y359.length < 17592186044416
          ·rw [if_pos c55] at H
           have LMc55 := am c55
           clear c55
           obtain ⟨y362, hy362⟩ : ∃ y_ : List Int, y_ = (x351000_22 ++ y359) := ⟨_, rfl⟩
           replace H : ((some (([100] : List Int) : List Int)).bind fun y365 => (if x351001_43.length + y365.length < 17592186044416 then (impl_State_stepped.j3 kj43 y362 (x351001_43 ++ y365) a0_2) else (none))) = some (r1, r2, r3, r4) := by first | (rw [hy362]; with_reducible exact H) | (have H2_ := (Option.bind_some _ _).symm.trans H; rw [hy362]; with_reducible exact H2_) | (have H2_ := (Option.bind_some _ _).symm.trans H; with_reducible exact H2_) | with_reducible exact H | (rw [hy362]; exact H) | exact H
           have Ny362 := am hy362
           clear hy362
           obtain ⟨y365, hy365⟩ : ∃ y_ : List Int, y_ = (([100] : List Int)) := ⟨_, rfl⟩
           replace H : (if x351001_43.length + y365.length < 17592186044416 then (impl_State_stepped.j3 kj43 y362 (x351001_43 ++ y365) a0_2) else (none)) = some (r1, r2, r3, r4) := by first | (rw [hy365]; with_reducible exact H) | (have H2_ := (Option.bind_some _ _).symm.trans H; rw [hy365]; with_reducible exact H2_) | (have H2_ := (Option.bind_some _ _).symm.trans H; with_reducible exact H2_) | with_reducible exact H | (rw [hy365]; exact H) | exact H
           have Ny365 := am hy365
           clear hy365
           by_cases c56 : x351001_43.length + y365.length < 17592186044416
           ·rw [if_pos c56] at H
            have LMc56 := am c56
            clear c56
            obtain ⟨y368, hy368⟩ : ∃ y_ : List Int, y_ = (x351001_43 ++ y365) := ⟨_, rfl⟩
            replace H : (impl_State_stepped.j3 kj43 y362 y368 a0_2) = some (r1, r2, r3, r4) := by first | (rw [hy368]; with_reducible exact H) | (have H2_ := (Option.bind_some _ _).symm.trans H; rw [hy368]; with_reducible exact H2_) | (have H2_ := (Option.bind_some _ _).symm.trans H; with_reducible exact H2_) | with_reducible exact H | (rw [hy368]; exact H) | exact H
            have Ny368 := am hy368
            clear hy368
            have H' := am H
            clear H
            obtain ⟨Ao57, co57, eo57⟩ := Kd.R_slice HO_351000.out
            subst eo57
            obtain ⟨Ao58, co58, eo58⟩ := Kd.R_slice HO_351001.out
            subst eo58
            try go_wp2
            replace HO_351000 := am (Kd.R_drew HO_351000.out)
            replace HO_351001 := am (Kd.R_drew HO_351001.out)
            replace BK342 := am (kC BK342.out)
            replace BK343 := am (kC BK343.out)
            replace BK350 := am (kC BK350.out)
            replace HB := am (below_drew1 HB.out)
            refine start_ (n := 12) (S := fun w' => w'.cell? ⟨gb350, 0, none⟩ = some (.slice Ao57 x351000_22.length co57) ∧ w'.cell? ⟨gb350, 1, none⟩ = some (.slice Ao58 x351001_43.length co58) ∧ w'.cell? ⟨gb350, 2, none⟩ = some (.int .i64 a0_2)) (ds := [9, 11]) #[false, false, false, false, false, false, false, false, false, false, false, false] (by kernel_rfl) rfl rfl ⟨(blk_cell BK350.out 0).trans rfl, (blk_cell BK350.out 1).trans rfl, (blk_cell BK350.out 2).trans rfl⟩ (fun hHeld => ?_); refine with_tabW impl_State_stepped.tab23 impl_State_stepped.bits23 (fun HT_ HW_ => ?_)
            generalize wc.drew = w59 at HO_351000 HO_351001 BK342 BK343 BK350 HB hHeld ⊢
            refine pure_ (i := 0) (N := some 99) (v := ?_) (a' := ?_) #[true, false, false, false, false, false, false, false, false, false, false, false] rfl rfl (any_of HT_.out (by kernel_rfl)) (fun _ _ _ h => h) (Or.inl ⟨by rfl, ?_⟩) ?_ ?_
            rotate_left
            ·intro w'
             go_simp
             with_reducible rfl
            rotate_left
            ·simp only [Act.put, sI, s0_, s1_, i64_w, i32_w]
             rfl
            refine pure_ (i := 4) (N := some 103) (v := ?_) (a' := ?_) #[true, false, false, false, true, false, false, false, false, false, false, false] rfl rfl (any_of HT_.out (by kernel_rfl)) (fun _ _ _ h => h) (Or.inl ⟨by rfl, ?_⟩) ?_ ?_
            rotate_left
            ·intro w'
             go_simp
             with_reducible rfl
            rotate_left
            ·simp only [Act.put, sI, s0_, s1_, i64_w, i32_w]
             rfl
            refine take_ (i := 1) (N := some 100) (v := ?_) (a' := ?_) #[true, true, false, false, true, false, false, false, false, false, false, false] rfl rfl (take_ofW HT_.out HW_.out (by kernel_rfl)) (fun _ _ _ h => h) (Or.inl ⟨by rfl, ?_⟩) hHeld ?_ ?_
            rotate_left
            ·rintro w' ⟨s0, s1, s2⟩
             go_simp
             with_reducible rfl
            rotate_left
            ·simp only [Act.put, sI, s0_, s1_, i64_w, i32_w]
             rfl
            refine take_ (i := 5) (N := some 104) (v := ?_) (a' := ?_) #[true, true, false, false, true, true, false, false, false, false, false, false] rfl rfl (take_ofW HT_.out HW_.out (by kernel_rfl)) (fun _ _ _ h => h) (Or.inl ⟨by rfl, ?_⟩) hHeld ?_ ?_
            rotate_left
            ·rintro w' ⟨s0, s1, s2⟩
             go_simp
             with_reducible rfl
            rotate_left
            ·simp only [Act.put, sI, s0_, s1_, i64_w, i32_w]
             rfl
            refine join_ (σ := Value × Value × Value) 4 #[true, true, true, true, true, true, true, false, true, false, false, false] (fun s_ => [(101, s_.1), (102, s_.2.1), (105, s_.2.2), (107, .pointer (some ⟨gb350, 0, none⟩))]) (fun s_ w' => (w'.cell? ⟨gb350, 0, none⟩ = some (.slice Ao57 x351000_22.length co57) ∧ w'.cell? ⟨gb350, 1, none⟩ = some (.slice Ao58 x351001_43.length co58) ∧ w'.cell? ⟨gb350, 2, none⟩ = some (.int .i64 a0_2)) ∧ (Kd.R (Kd.int .i64) 3 w' w.heap.size (fun k_ => some k_ ≠ (s_.2.1 : Value).ownBlock ∧ some k_ ≠ (s_.2.2 : Value).ownBlock ∧ some k_ ≠ (.slice Ao58 x351001_43.length co58 : Value).ownBlock) s_.1 y359) ∧ (Kd.R (Kd.int .i64) 3 w' w.heap.size (fun k_ => some k_ ≠ (s_.1 : Value).ownBlock ∧ some k_ ≠ (s_.2.2 : Value).ownBlock ∧ some k_ ≠ (.slice Ao58 x351001_43.length co58 : Value).ownBlock) s_.2.1 y362) ∧ (Kd.R (Kd.int .i64) 3 w' w.heap.size (fun k_ => some k_ ≠ (s_.1 : Value).ownBlock ∧ some k_ ≠ (s_.2.1 : Value).ownBlock ∧ some k_ ≠ (.slice Ao58 x351001_43.length co58 : Value).ownBlock) s_.2.2 y365) ∧ (Kd.R (Kd.int .i64) 3 w' w.heap.size (fun k_ => some k_ ≠ (s_.1 : Value).ownBlock ∧ some k_ ≠ (s_.2.1 : Value).ownBlock ∧ some k_ ≠ (s_.2.2 : Value).ownBlock) (.slice Ao58 x351001_43.length co58) x351001_43) ∧ (w'.heap[gb342]? = some (.cells #[.slice A0_0 l0_0.length c0_0, .slice A0_1 l0_1.length c0_1, .int .i64 a0_2] 27 (0, 0))) ∧ (w'.heap[gb343]? = some (.cells #[.slice none 0 0, .slice none 0 0, .int .i64 0] 27 (0, 0))) ∧ (w'.heap[gb350]? = some (.cells #[.slice Ao57 x351000_22.length co57, .slice Ao58 x351001_43.length co58, .int .i64 a0_2] 27 (0, 0))) ∧ (Below w.heap.size w w')) ?_ ?_
            rotate_left
            ·intro hCont
             refine two_ (i := 2) (j := 6) (Ni := some 101) (Nj := some 105) #[true, true, true, false, true, true, false, false, false, false, false, false] #[true, true, false, false, true, true, true, false, false, false, false, false] rfl rfl rfl rfl (two_of HT_.out (by kernel_rfl)) (by decide) (by decide) (fun K hK => ?_) (fun K hK => ?_)
             ·skip
              refine Kd.R_lit_step (Kd.int .i64) _ 3 ?hg (N := 101) ?hd (xs := ([100] : List Int)) (inner := [.int .i64 100]) (ok := fun _ => True) (okp := fun _ => True) ?hr ?hp (fun _ hk => hk) trivial (Below.refl _ _) (Nat.le_refl _) (by simp) ?_; (case hd => rfl); (case hg => rfl); (case hr => first | (go_simp; done) | (go_simp; rfl)); (case hp => exact (Reps.one (show Kd.M (Kd.int .i64) _ _ _ 100 [.int .i64 100] from rfl) (Reps.none _ _)))
              intro v360 w60 ho61 hb hg_ hnew_
              clear hg_ hnew_
              (first | rw [← Ny359.out] at ho61 | (simp only [Int.reduceToNat] at ho61; rw [← Ny359.out] at ho61))
              have HO361 := am (Kd.R_lower (Kd.R_new' (Kd.R_new' ho61 (Kd.R_lt (by (with_reducible repeat (first | apply rA | apply rN | apply rD)); exact HO_351000.out))) (Kd.R_lt (by (with_reducible repeat (first | apply rA | apply rN | apply rD)); exact HO_351001.out))) (below_size (by repeat (with_reducible first | exact HB.out | apply bA | apply bN | apply bD | refine bS ?_ GE342.out | refine bS ?_ GE343.out | refine bS ?_ GE350.out))))
              replace HO_351000 := am (Kd.R_elder' (by (with_reducible repeat (first | apply rA | apply rN | apply rD)); exact HO_351000.out) (Kd.R_base ho61) hb)
              replace HO_351001 := am (Kd.R_elder' (by (with_reducible repeat (first | apply rA | apply rN | apply rD)); exact HO_351001.out) (Kd.R_base ho61) hb)
              replace BK342 := am (blk_below (g := gb342) (o := .cells #[.slice A0_0 l0_0.length c0_0, .slice A0_1 l0_1.length c0_1, .int .i64 a0_2] 27 (0, 0)) (by (with_reducible repeat (first | apply kB | apply kC | apply kE)); exact BK342.out) hb)
              replace BK343 := am (blk_below (g := gb343) (o := .cells #[.slice none 0 0, .slice none 0 0, .int .i64 0] 27 (0, 0)) (by (with_reducible repeat (first | apply kB | apply kC | apply kE)); exact BK343.out) hb)
              replace BK350 := am (blk_below (g := gb350) (o := .cells #[.slice Ao57 x351000_22.length co57, .slice Ao58 x351001_43.length co58, .int .i64 a0_2] 27 (0, 0)) (by (with_reducible repeat (first | apply kB | apply kC | apply kE)); exact BK350.out) hb)
              replace HB := am (below_step (by repeat (with_reducible first | exact HB.out | apply bA | apply bN | apply bD | refine bS ?_ GE342.out | refine bS ?_ GE343.out | refine bS ?_ GE350.out)) hb)
              clear hb ho61
              obtain ⟨Ao63, co63, eo63⟩ := Kd.R_slice HO361.out
              (first | subst eo63 | (injection eo63 with f1_ f2_ f3_; have f4_ := f1_.symm; have f5_ := f3_.symm; clear f1_ f2_ f3_; subst f4_; subst f5_))
              refine hK.out _ _ ⟨(blk_cell BK350.out 0).trans rfl, (blk_cell BK350.out 1).trans rfl, (blk_cell BK350.out 2).trans rfl⟩ (fun hHeld => ?_)
              clear hK K
              refine norm_ (a' := ?_) ?_ ?_
              rotate_left
              ·show Act.put _ (some 101) _ = _
               simp only [Act.put, sI, s0_, s1_, i64_w, i32_w]
               rfl
              refine two_ (i := 3) (j := 6) (Ni := some 102) (Nj := some 105) #[true, true, true, true, true, true, false, false, false, false, false, false] #[true, true, true, false, true, true, true, false, false, false, false, false] rfl rfl rfl rfl (two_of HT_.out (by kernel_rfl)) (by decide) (by decide) (fun K hK => ?_) (fun K hK => ?_)
              ·skip
               refine Kd.R_append_rows_step (Kd.int .i64) (w0 := w) w.heap.size (by rfl) (.tmp 100) (.tmp 101) 22 3 (.int .i64 0) 8 rfl Try.underlying22 info3 rfl (by decide) (by omega) (.slice Ao57 x351000_22.length co57) x351000_22 y359 _ _ _ (fun k_ => some k_ ≠ (.slice Ao58 x351001_43.length co58 : Value).ownBlock ∧ some k_ ≠ (.slice Ao63 y359.length co63 : Value).ownBlock) (fun _ => False) rfl rfl ?aO ?aR (fun _ _ h => h) (fun _ h => h.elim) ?aF ?aB ?aS ?aL ?_
               (case aR => repeat (first | exact (Kd.R_reads' HO361.out).2.2 | (with_reducible first | apply cA | apply cN | apply cD)))
               (case aB => exact (by repeat (with_reducible first | exact HB.out | apply bA | apply bN | apply bD | refine bS ?_ GE342.out | refine bS ?_ GE343.out | refine bS ?_ GE350.out)))
               (case aF => exact (fun k_ hk => ⟨Kd.fresh' (Kd.R_lt (by (with_reducible repeat (first | apply rA | apply rN | apply rD)); exact HO_351001.out)) k_ hk, Kd.fresh' (Kd.R_lt (by (with_reducible repeat (first | apply rA | apply rN | apply rD)); exact HO361.out)) k_ hk⟩))
               (case aO => exact (by (with_reducible repeat (first | apply rA | apply rN | apply rD)); exact HO_351000.out))
               (case aS => exact (below_size (by repeat (with_reducible first | exact HB.out | apply bA | apply bN | apply bD | refine bS ?_ GE342.out | refine bS ?_ GE343.out | refine bS ?_ GE350.out))))
               (case aL => have := LMc55.out; omega)
               intro v363 w62 ho hb hg hat
               rw [← Ny362.out] at ho
               replace HO_351001 := am (Kd.R_after (ok := (fun k_ => some k_ ≠ (.slice Ao63 y359.length co63 : Value).ownBlock)) (by (with_reducible repeat (first | apply rA | apply rN | apply rD)); exact Kd.R_mono HO_351001.out (fun _ hk => ⟨hk.2, hk.1⟩)) hg hat)
               replace BK342 := am (blk_grown (g := gb342) (o := .cells #[.slice A0_0 l0_0.length c0_0, .slice A0_1 l0_1.length c0_1, .int .i64 a0_2] 27 (0, 0)) (by (with_reducible repeat (first | apply kB | apply kC | apply kE)); exact BK342.out) hg (Kd.R_ne HO_351000.out BK342.out (by decide)))
               replace BK343 := am (blk_grown (g := gb343) (o := .cells #[.slice none 0 0, .slice none 0 0, .int .i64 0] 27 (0, 0)) (by (with_reducible repeat (first | apply kB | apply kC | apply kE)); exact BK343.out) hg (Kd.R_ne HO_351000.out BK343.out (by decide)))
               replace BK350 := am (blk_grown (g := gb350) (o := .cells #[.slice Ao57 x351000_22.length co57, .slice Ao58 x351001_43.length co58, .int .i64 a0_2] 27 (0, 0)) (by (with_reducible repeat (first | apply kB | apply kC | apply kE)); exact BK350.out) hg (Kd.R_ne HO_351000.out BK350.out (by decide)))
               replace HO361 := am (Kd.R_after (ok := (fun k_ => some k_ ≠ (.slice Ao58 x351001_43.length co58 : Value).ownBlock)) (by (with_reducible repeat (first | apply rA | apply rN | apply rD)); exact Kd.R_mono HO361.out (fun _ hk => ⟨hk.2, hk.1.2⟩)) hg hat)
               replace HB := am (hb)
               have HO364 := am (ho)
               clear HO_351000 ho hb hg hat
               refine hK.out _ _ ⟨(blk_cell BK350.out 0).trans rfl, (blk_cell BK350.out 1).trans rfl, (blk_cell BK350.out 2).trans rfl⟩ (fun hHeld => ?_)
               clear hK K
               refine norm_ (a' := ?_) ?_ ?_
               rotate_left
               ·show Act.put _ (some 102) _ = _
                simp only [Act.put, sI, s0_, s1_, i64_w, i32_w]
                rfl
               refine pure_ (i := 8) (N := some 107) (v := ?_) (a' := ?_) #[true, true, true, true, true, true, false, false, true, false, false, false] rfl rfl (any_of HT_.out (by kernel_rfl)) (fun _ _ _ h => h) (Or.inl ⟨by rfl, ?_⟩) ?_ ?_
               rotate_left
               ·intro w'
                go_simp
                with_reducible rfl
               rotate_left
               ·simp only [Act.put, sI, s0_, s1_, i64_w, i32_w]
                rfl
               refine one_ (i := 6) (N := some 105) #[true, true, true, true, true, true, true, false, true, false, false, false] rfl rfl (one_of HT_.out (by kernel_rfl)) (by decide) (fun K hK => ?_)
               refine Kd.R_lit_step (Kd.int .i64) _ 3 ?hg (N := 105) ?hd (xs := ([100] : List Int)) (inner := [.int .i64 100]) (ok := fun _ => True) (okp := fun _ => True) ?hr ?hp (fun _ hk => hk) trivial (Below.refl _ _) (Nat.le_refl _) (by simp) ?_; (case hd => rfl); (case hg => rfl); (case hr => first | (go_simp; done) | (go_simp; rfl)); (case hp => exact (Reps.one (show Kd.M (Kd.int .i64) _ _ _ 100 [.int .i64 100] from rfl) (Reps.none _ _)))
               intro v366 w64 ho65 hb hg_ hnew_
               clear hg_ hnew_
               (first | rw [← Ny365.out] at ho65 | (simp only [Int.reduceToNat] at ho65; rw [← Ny365.out] at ho65))
               have HO367 := am (Kd.R_lower (Kd.R_new' (Kd.R_new' (Kd.R_new' ho65 (Kd.R_lt (by (with_reducible repeat (first | apply rA | apply rN | apply rD)); exact HO_351001.out))) (Kd.R_lt (by (with_reducible repeat (first | apply rA | apply rN | apply rD)); exact HO361.out))) (Kd.R_lt (by (with_reducible repeat (first | apply rA | apply rN | apply rD)); exact HO364.out))) (below_size (by repeat (with_reducible first | exact HB.out | apply bA | apply bN | apply bD | refine bS ?_ GE342.out | refine bS ?_ GE343.out | refine bS ?_ GE350.out))))
               replace HO_351001 := am (Kd.R_elder' (by (with_reducible repeat (first | apply rA | apply rN | apply rD)); exact HO_351001.out) (Kd.R_base ho65) hb)
               replace HO361 := am (Kd.R_elder' (by (with_reducible repeat (first | apply rA | apply rN | apply rD)); exact HO361.out) (Kd.R_base ho65) hb)
               replace HO364 := am (Kd.R_elder' (by (with_reducible repeat (first | apply rA | apply rN | apply rD)); exact HO364.out) (Kd.R_base ho65) hb)
               replace BK342 := am (blk_below (g := gb342) (o := .cells #[.slice A0_0 l0_0.length c0_0, .slice A0_1 l0_1.length c0_1, .int .i64 a0_2] 27 (0, 0)) (by (with_reducible repeat (first | apply kB | apply kC | apply kE)); exact BK342.out) hb)
               replace BK343 := am (blk_below (g := gb343) (o := .cells #[.slice none 0 0, .slice none 0 0, .int .i64 0] 27 (0, 0)) (by (with_reducible repeat (first | apply kB | apply kC | apply kE)); exact BK343.out) hb)
               replace BK350 := am (blk_below (g := gb350) (o := .cells #[.slice Ao57 x351000_22.length co57, .slice Ao58 x351001_43.length co58, .int .i64 a0_2] 27 (0, 0)) (by (with_reducible repeat (first | apply kB | apply kC | apply kE)); exact BK350.out) hb)
               replace HB := am (below_step (by repeat (with_reducible first | exact HB.out | apply bA | apply bN | apply bD | refine bS ?_ GE342.out | refine bS ?_ GE343.out | refine bS ?_ GE350.out)) hb)
               clear hb ho65
               refine hK.out _ _ ⟨(blk_cell BK350.out 0).trans rfl, (blk_cell BK350.out 1).trans rfl, (blk_cell BK350.out 2).trans rfl⟩ (fun hHeld => ?_)
               clear hK K
               refine norm_ (a' := ?_) ?_ ?_
               rotate_left
               ·show Act.put _ (some 105) _ = _
                simp only [Act.put, sI, s0_, s1_, i64_w, i32_w]
                rfl
               exact norm_ (by simp only [putAll, Act.put, sI, s0_, s1_]) (hCont (.slice Ao63 y359.length co63, v363, v366) _ ⟨hHeld, (by (with_reducible repeat (first | apply rA | apply rN | apply rD)); exact Kd.R_mono HO361.out (fun _ hk => ⟨hk.1.2, ⟨hk.2, hk.1.1⟩⟩)), (by (with_reducible repeat (first | apply rA | apply rN | apply rD)); exact Kd.R_mono HO364.out (fun _ hk => ⟨hk.1.2, ⟨hk.2, hk.1.1⟩⟩)), (by (with_reducible repeat (first | apply rA | apply rN | apply rD)); exact Kd.R_mono HO367.out (fun _ hk => ⟨hk.1.2, ⟨hk.2, hk.1.1.2⟩⟩)), (by (with_reducible repeat (first | apply rA | apply rN | apply rD)); exact Kd.R_mono HO_351001.out (fun _ hk => ⟨hk.1.1, ⟨hk.1.2, hk.2⟩⟩)), (by (with_reducible repeat (first | apply kB | apply kC | apply kE)); exact BK342.out), (by (with_reducible repeat (first | apply kB | apply kC | apply kE)); exact BK343.out), (by (with_reducible repeat (first | apply kB | apply kC | apply kE)); exact BK350.out), (by repeat (with_reducible first | exact HB.out | apply bA | apply bN | apply bD | refine bS ?_ GE342.out | refine bS ?_ GE343.out | refine bS ?_ GE350.out))⟩)
              ·skip
               refine Kd.R_lit_step (Kd.int .i64) _ 3 ?hg (N := 105) ?hd (xs := ([100] : List Int)) (inner := [.int .i64 100]) (ok := fun _ => True) (okp := fun _ => True) ?hr ?hp (fun _ hk => hk) trivial (Below.refl _ _) (Nat.le_refl _) (by simp) ?_; (case hd => rfl); (case hg => rfl); (case hr => first | (go_simp; done) | (go_simp; rfl)); (case hp => exact (Reps.one (show Kd.M (Kd.int .i64) _ _ _ 100 [.int .i64 100] from rfl) (Reps.none _ _)))
               intro v366 w62 ho63 hb hg_ hnew_
               clear hg_ hnew_
               (first | rw [← Ny365.out] at ho63 | (simp only [Int.reduceToNat] at ho63; rw [← Ny365.out] at ho63))
               have HO367 := am (Kd.R_lower (Kd.R_new' (Kd.R_new' (Kd.R_new' ho63 (Kd.R_lt (by (with_reducible repeat (first | apply rA | apply rN | apply rD)); exact HO_351000.out))) (Kd.R_lt (by (with_reducible repeat (first | apply rA | apply rN | apply rD)); exact HO_351001.out))) (Kd.R_lt (by (with_reducible repeat (first | apply rA | apply rN | apply rD)); exact HO361.out))) (below_size (by repeat (with_reducible first | exact HB.out | apply bA | apply bN | apply bD | refine bS ?_ GE342.out | refine bS ?_ GE343.out | refine bS ?_ GE350.out))))
               replace HO_351000 := am (Kd.R_elder' (by (with_reducible repeat (first | apply rA | apply rN | apply rD)); exact HO_351000.out) (Kd.R_base ho63) hb)
               replace HO_351001 := am (Kd.R_elder' (by (with_reducible repeat (first | apply rA | apply rN | apply rD)); exact HO_351001.out) (Kd.R_base ho63) hb)
               replace HO361 := am (Kd.R_elder' (by (with_reducible repeat (first | apply rA | apply rN | apply rD)); exact HO361.out) (Kd.R_base ho63) hb)
               replace BK342 := am (blk_below (g := gb342) (o := .cells #[.slice A0_0 l0_0.length c0_0, .slice A0_1 l0_1.length c0_1, .int .i64 a0_2] 27 (0, 0)) (by (with_reducible repeat (first | apply kB | apply kC | apply kE)); exact BK342.out) hb)
               replace BK343 := am (blk_below (g := gb343) (o := .cells #[.slice none 0 0, .slice none 0 0, .int .i64 0] 27 (0, 0)) (by (with_reducible repeat (first | apply kB | apply kC | apply kE)); exact BK343.out) hb)
               replace BK350 := am (blk_below (g := gb350) (o := .cells #[.slice Ao57 x351000_22.length co57, .slice Ao58 x351001_43.length co58, .int .i64 a0_2] 27 (0, 0)) (by (with_reducible repeat (first | apply kB | apply kC | apply kE)); exact BK350.out) hb)
               replace HB := am (below_step (by repeat (with_reducible first | exact HB.out | apply bA | apply bN | apply bD | refine bS ?_ GE342.out | refine bS ?_ GE343.out | refine bS ?_ GE350.out)) hb)
               clear hb ho63
               obtain ⟨Ao65, co65, eo65⟩ := Kd.R_slice HO361.out
               (first | subst eo65 | (injection eo65 with f1_ f2_ f3_; have f4_ := f1_.symm; have f5_ := f3_.symm; clear f1_ f2_ f3_; subst f4_; subst f5_))
               refine hK.out _ _ ⟨(blk_cell BK350.out 0).trans rfl, (blk_cell BK350.out 1).trans rfl, (blk_cell BK350.out 2).trans rfl⟩ (fun hHeld => ?_)
               clear hK K
               refine norm_ (a' := ?_) ?_ ?_
               rotate_left
               ·show Act.put _ (some 105) _ = _
                simp only [Act.put, sI, s0_, s1_, i64_w, i32_w]
                rfl
               refine one_ (i := 3) (N := some 102) #[true, true, true, true, true, true, true, false, false, false, false, false] rfl rfl (one_of HT_.out (by kernel_rfl)) (by decide) (fun K hK => ?_)
               refine Kd.R_append_rows_step (Kd.int .i64) (w0 := w) w.heap.size (by rfl) (.tmp 100) (.tmp 101) 22 3 (.int .i64 0) 8 rfl Try.underlying22 info3 rfl (by decide) (by omega) (.slice Ao57 x351000_22.length co57) x351000_22 y359 _ _ _ (fun k_ => some k_ ≠ (.slice Ao58 x351001_43.length co58 : Value).ownBlock ∧ some k_ ≠ (.slice Ao65 y359.length co65 : Value).ownBlock ∧ some k_ ≠ (v366 : Value).ownBlock) (fun _ => False) rfl rfl ?aO ?aR (fun _ _ h => h) (fun _ h => h.elim) ?aF ?aB ?aS ?aL ?_
               (case aR => repeat (first | exact (Kd.R_reads' HO361.out).2.2 | (with_reducible first | apply cA | apply cN | apply cD)))
               (case aB => exact (by repeat (with_reducible first | exact HB.out | apply bA | apply bN | apply bD | refine bS ?_ GE342.out | refine bS ?_ GE343.out | refine bS ?_ GE350.out)))
               (case aF => exact (fun k_ hk => ⟨Kd.fresh' (Kd.R_lt (by (with_reducible repeat (first | apply rA | apply rN | apply rD)); exact HO_351001.out)) k_ hk, Kd.fresh' (Kd.R_lt (by (with_reducible repeat (first | apply rA | apply rN | apply rD)); exact HO361.out)) k_ hk, Kd.fresh' (Kd.R_lt (by (with_reducible repeat (first | apply rA | apply rN | apply rD)); exact HO367.out)) k_ hk⟩))
               (case aO => exact (by (with_reducible repeat (first | apply rA | apply rN | apply rD)); exact Kd.R_mono HO_351000.out (fun _ hk => ⟨hk.1.1, ⟨hk.1.2, hk.2⟩⟩)))
               (case aS => exact (below_size (by repeat (with_reducible first | exact HB.out | apply bA | apply bN | apply bD | refine bS ?_ GE342.out | refine bS ?_ GE343.out | refine bS ?_ GE350.out))))
               (case aL => have := LMc55.out; omega)
               intro v363 w64 ho hb hg hat
               rw [← Ny362.out] at ho
               replace HO_351001 := am (Kd.R_after (ok := (fun k_ => some k_ ≠ (.slice Ao65 y359.length co65 : Value).ownBlock ∧ some k_ ≠ (v366 : Value).ownBlock)) (by (with_reducible repeat (first | apply rA | apply rN | apply rD)); exact Kd.R_mono HO_351001.out (fun _ hk => ⟨⟨hk.1.2, hk.2⟩, hk.1.1⟩)) hg hat)
               replace BK342 := am (blk_grown (g := gb342) (o := .cells #[.slice A0_0 l0_0.length c0_0, .slice A0_1 l0_1.length c0_1, .int .i64 a0_2] 27 (0, 0)) (by (with_reducible repeat (first | apply kB | apply kC | apply kE)); exact BK342.out) hg (Kd.R_ne HO_351000.out BK342.out (by decide)))
               replace BK343 := am (blk_grown (g := gb343) (o := .cells #[.slice none 0 0, .slice none 0 0, .int .i64 0] 27 (0, 0)) (by (with_reducible repeat (first | apply kB | apply kC | apply kE)); exact BK343.out) hg (Kd.R_ne HO_351000.out BK343.out (by decide)))
               replace BK350 := am (blk_grown (g := gb350) (o := .cells #[.slice Ao57 x351000_22.length co57, .slice Ao58 x351001_43.length co58, .int .i64 a0_2] 27 (0, 0)) (by (with_reducible repeat (first | apply kB | apply kC | apply kE)); exact BK350.out) hg (Kd.R_ne HO_351000.out BK350.out (by decide)))
               replace HO361 := am (Kd.R_after (ok := (fun k_ => some k_ ≠ (.slice Ao58 x351001_43.length co58 : Value).ownBlock ∧ some k_ ≠ (v366 : Value).ownBlock)) (by (with_reducible repeat (first | apply rA | apply rN | apply rD)); exact Kd.R_mono HO361.out (fun _ hk => ⟨⟨hk.1.2, hk.2⟩, hk.1.1.2⟩)) hg hat)
               replace HO367 := am (Kd.R_after (ok := (fun k_ => some k_ ≠ (.slice Ao58 x351001_43.length co58 : Value).ownBlock ∧ some k_ ≠ (.slice Ao65 y359.length co65 : Value).ownBlock)) (by (with_reducible repeat (first | apply rA | apply rN | apply rD)); exact Kd.R_mono HO367.out (fun _ hk => ⟨⟨hk.1.2, hk.2⟩, hk.1.1.2⟩)) hg hat)
               replace HB := am (hb)
               have HO364 := am (ho)
               clear HO_351000 ho hb hg hat
               refine hK.out _ _ ⟨(blk_cell BK350.out 0).trans rfl, (blk_cell BK350.out 1).trans rfl, (blk_cell BK350.out 2).trans rfl⟩ (fun hHeld => ?_)
               clear hK K
               refine norm_ (a' := ?_) ?_ ?_
               rotate_left
               ·show Act.put _ (some 102) _ = _
                simp only [Act.put, sI, s0_, s1_, i64_w, i32_w]
                rfl
               refine pure_ (i := 8) (N := some 107) (v := ?_) (a' := ?_) #[true, true, true, true, true, true, true, false, true, false, false, false] rfl rfl (any_of HT_.out (by kernel_rfl)) (fun _ _ _ h => h) (Or.inl ⟨by rfl, ?_⟩) ?_ ?_
               rotate_left
               ·intro w'
                go_simp
                with_reducible rfl
               rotate_left
               ·simp only [Act.put, sI, s0_, s1_, i64_w, i32_w]
                rfl
               exact norm_ (by simp only [putAll, Act.put, sI, s0_, s1_]) (hCont (.slice Ao65 y359.length co65, v363, v366) _ ⟨hHeld, (by (with_reducible repeat (first | apply rA | apply rN | apply rD)); exact Kd.R_mono HO361.out (fun _ hk => ⟨hk.2, ⟨hk.1.2, hk.1.1⟩⟩)), (by (with_reducible repeat (first | apply rA | apply rN | apply rD)); exact Kd.R_mono HO364.out (fun _ hk => ⟨hk.2.1, ⟨hk.2.2, hk.1⟩⟩)), (by (with_reducible repeat (first | apply rA | apply rN | apply rD)); exact Kd.R_mono HO367.out (fun _ hk => ⟨hk.1.2, ⟨hk.2, hk.1.1⟩⟩)), (by (with_reducible repeat (first | apply rA | apply rN | apply rD)); exact Kd.R_mono HO_351001.out (fun _ hk => ⟨hk.1.1, ⟨hk.2, hk.1.2⟩⟩)), (by (with_reducible repeat (first | apply kB | apply kC | apply kE)); exact BK342.out), (by (with_reducible repeat (first | apply kB | apply kC | apply kE)); exact BK343.out), (by (with_reducible repeat (first | apply kB | apply kC | apply kE)); exact BK350.out), (by repeat (with_reducible first | exact HB.out | apply bA | apply bN | apply bD | refine bS ?_ GE342.out | refine bS ?_ GE343.out | refine bS ?_ GE350.out))⟩)
             ·skip
              refine Kd.R_lit_step (Kd.int .i64) _ 3 ?hg (N := 105) ?hd (xs := ([100] : List Int)) (inner := [.int .i64 100]) (ok := fun _ => True) (okp := fun _ => True) ?hr ?hp (fun _ hk => hk) trivial (Below.refl _ _) (Nat.le_refl _) (by simp) ?_; (case hd => rfl); (case hg => rfl); (case hr => first | (go_simp; done) | (go_simp; rfl)); (case hp => exact (Reps.one (show Kd.M (Kd.int .i64) _ _ _ 100 [.int .i64 100] from rfl) (Reps.none _ _)))
              intro v366 w60 ho61 hb hg_ hnew_
              clear hg_ hnew_
              (first | rw [← Ny365.out] at ho61 | (simp only [Int.reduceToNat] at ho61; rw [← Ny365.out] at ho61))
              have HO367 := am (Kd.R_lower (Kd.R_new' (Kd.R_new' ho61 (Kd.R_lt (by (with_reducible repeat (first | apply rA | apply rN | apply rD)); exact HO_351000.out))) (Kd.R_lt (by (with_reducible repeat (first | apply rA | apply rN | apply rD)); exact HO_351001.out))) (below_size (by repeat (with_reducible first | exact HB.out | apply bA | apply bN | apply bD | refine bS ?_ GE342.out | refine bS ?_ GE343.out | refine bS ?_ GE350.out))))
              replace HO_351000 := am (Kd.R_elder' (by (with_reducible repeat (first | apply rA | apply rN | apply rD)); exact HO_351000.out) (Kd.R_base ho61) hb)
              replace HO_351001 := am (Kd.R_elder' (by (with_reducible repeat (first | apply rA | apply rN | apply rD)); exact HO_351001.out) (Kd.R_base ho61) hb)
              replace BK342 := am (blk_below (g := gb342) (o := .cells #[.slice A0_0 l0_0.length c0_0, .slice A0_1 l0_1.length c0_1, .int .i64 a0_2] 27 (0, 0)) (by (with_reducible repeat (first | apply kB | apply kC | apply kE)); exact BK342.out) hb)
              replace BK343 := am (blk_below (g := gb343) (o := .cells #[.slice none 0 0, .slice none 0 0, .int .i64 0] 27 (0, 0)) (by (with_reducible repeat (first | apply kB | apply kC | apply kE)); exact BK343.out) hb)
              replace BK350 := am (blk_below (g := gb350) (o := .cells #[.slice Ao57 x351000_22.length co57, .slice Ao58 x351001_43.length co58, .int .i64 a0_2] 27 (0, 0)) (by (with_reducible repeat (first | apply kB | apply kC | apply kE)); exact BK350.out) hb)
              replace HB := am (below_step (by repeat (with_reducible first | exact HB.out | apply bA | apply bN | apply bD | refine bS ?_ GE342.out | refine bS ?_ GE343.out | refine bS ?_ GE350.out)) hb)
              clear hb ho61
              refine hK.out _ _ ⟨(blk_cell BK350.out 0).trans rfl, (blk_cell BK350.out 1).trans rfl, (blk_cell BK350.out 2).trans rfl⟩ (fun hHeld => ?_)
              clear hK K
              refine norm_ (a' := ?_) ?_ ?_
              rotate_left
              ·show Act.put _ (some 105) _ = _
               simp only [Act.put, sI, s0_, s1_, i64_w, i32_w]
               rfl
              refine one_ (i := 2) (N := some 101) #[true, true, true, false, true, true, true, false, false, false, false, false] rfl rfl (one_of HT_.out (by kernel_rfl)) (by decide) (fun K hK => ?_)
              refine Kd.R_lit_step (Kd.int .i64) _ 3 ?hg (N := 101) ?hd (xs := ([100] : List Int)) (inner := [.int .i64 100]) (ok := fun _ => True) (okp := fun _ => True) ?hr ?hp (fun _ hk => hk) trivial (Below.refl _ _) (Nat.le_refl _) (by simp) ?_; (case hd => rfl); (case hg => rfl); (case hr => first | (go_simp; done) | (go_simp; rfl)); (case hp => exact (Reps.one (show Kd.M (Kd.int .i64) _ _ _ 100 [.int .i64 100] from rfl) (Reps.none _ _)))
              intro v360 w62 ho63 hb hg_ hnew_
              clear hg_ hnew_
              (first | rw [← Ny359.out] at ho63 | (simp only [Int.reduceToNat] at ho63; rw [← Ny359.out] at ho63))
              have HO361 := am (Kd.R_lower (Kd.R_new' (Kd.R_new' (Kd.R_new' ho63 (Kd.R_lt (by (with_reducible repeat (first | apply rA | apply rN | apply rD)); exact HO_351000.out))) (Kd.R_lt (by (with_reducible repeat (first | apply rA | apply rN | apply rD)); exact HO_351001.out))) (Kd.R_lt (by (with_reducible repeat (first | apply rA | apply rN | apply rD)); exact HO367.out))) (below_size (by repeat (with_reducible first | exact HB.out | apply bA | apply bN | apply bD | refine bS ?_ GE342.out | refine bS ?_ GE343.out | refine bS ?_ GE350.out))))
              replace HO_351000 := am (Kd.R_elder' (by (with_reducible repeat (first | apply rA | apply rN | apply rD)); exact HO_351000.out) (Kd.R_base ho63) hb)
              replace HO_351001 := am (Kd.R_elder' (by (with_reducible repeat (first | apply rA | apply rN | apply rD)); exact HO_351001.out) (Kd.R_base ho63) hb)
              replace HO367 := am (Kd.R_elder' (by (with_reducible repeat (first | apply rA | apply rN | apply rD)); exact HO367.out) (Kd.R_base ho63) hb)
              replace BK342 := am (blk_below (g := gb342) (o := .cells #[.slice A0_0 l0_0.length c0_0, .slice A0_1 l0_1.length c0_1, .int .i64 a0_2] 27 (0, 0)) (by (with_reducible repeat (first | apply kB | apply kC | apply kE)); exact BK342.out) hb)
              replace BK343 := am (blk_below (g := gb343) (o := .cells #[.slice none 0 0, .slice none 0 0, .int .i64 0] 27 (0, 0)) (by (with_reducible repeat (first | apply kB | apply kC | apply kE)); exact BK343.out) hb)
              replace BK350 := am (blk_below (g := gb350) (o := .cells #[.slice Ao57 x351000_22.length co57, .slice Ao58 x351001_43.length co58, .int .i64 a0_2] 27 (0, 0)) (by (with_reducible repeat (first | apply kB | apply kC | apply kE)); exact BK350.out) hb)
              replace HB := am (below_step (by repeat (with_reducible first | exact HB.out | apply bA | apply bN | apply bD | refine bS ?_ GE342.out | refine bS ?_ GE343.out | refine bS ?_ GE350.out)) hb)
              clear hb ho63
              obtain ⟨Ao65, co65, eo65⟩ := Kd.R_slice HO361.out
              (first | subst eo65 | (injection eo65 with f1_ f2_ f3_; have f4_ := f1_.symm; have f5_ := f3_.symm; clear f1_ f2_ f3_; subst f4_; subst f5_))
              refine hK.out _ _ ⟨(blk_cell BK350.out 0).trans rfl, (blk_cell BK350.out 1).trans rfl, (blk_cell BK350.out 2).trans rfl⟩ (fun hHeld => ?_)
              clear hK K
              refine norm_ (a' := ?_) ?_ ?_
              rotate_left
              ·show Act.put _ (some 101) _ = _
               simp only [Act.put, sI, s0_, s1_, i64_w, i32_w]
               rfl
              refine one_ (i := 3) (N := some 102) #[true, true, true, true, true, true, true, false, false, false, false, false] rfl rfl (one_of HT_.out (by kernel_rfl)) (by decide) (fun K hK => ?_)
              refine Kd.R_append_rows_step (Kd.int .i64) (w0 := w) w.heap.size (by rfl) (.tmp 100) (.tmp 101) 22 3 (.int .i64 0) 8 rfl Try.underlying22 info3 rfl (by decide) (by omega) (.slice Ao57 x351000_22.length co57) x351000_22 y359 _ _ _ (fun k_ => some k_ ≠ (.slice Ao58 x351001_43.length co58 : Value).ownBlock ∧ some k_ ≠ (v366 : Value).ownBlock ∧ some k_ ≠ (.slice Ao65 y359.length co65 : Value).ownBlock) (fun _ => False) rfl rfl ?aO ?aR (fun _ _ h => h) (fun _ h => h.elim) ?aF ?aB ?aS ?aL ?_
              (case aR => repeat (first | exact (Kd.R_reads' HO361.out).2.2 | (with_reducible first | apply cA | apply cN | apply cD)))
              (case aB => exact (by repeat (with_reducible first | exact HB.out | apply bA | apply bN | apply bD | refine bS ?_ GE342.out | refine bS ?_ GE343.out | refine bS ?_ GE350.out)))
              (case aF => exact (fun k_ hk => ⟨Kd.fresh' (Kd.R_lt (by (with_reducible repeat (first | apply rA | apply rN | apply rD)); exact HO_351001.out)) k_ hk, Kd.fresh' (Kd.R_lt (by (with_reducible repeat (first | apply rA | apply rN | apply rD)); exact HO367.out)) k_ hk, Kd.fresh' (Kd.R_lt (by (with_reducible repeat (first | apply rA | apply rN | apply rD)); exact HO361.out)) k_ hk⟩))
              (case aO => exact (by (with_reducible repeat (first | apply rA | apply rN | apply rD)); exact Kd.R_mono HO_351000.out (fun _ hk => ⟨hk.1.1, ⟨hk.1.2, hk.2⟩⟩)))
              (case aS => exact (below_size (by repeat (with_reducible first | exact HB.out | apply bA | apply bN | apply bD | refine bS ?_ GE342.out | refine bS ?_ GE343.out | refine bS ?_ GE350.out))))
              (case aL => have := LMc55.out; omega)
              intro v363 w64 ho hb hg hat
              rw [← Ny362.out] at ho
              replace HO_351001 := am (Kd.R_after (ok := (fun k_ => some k_ ≠ (v366 : Value).ownBlock ∧ some k_ ≠ (.slice Ao65 y359.length co65 : Value).ownBlock)) (by (with_reducible repeat (first | apply rA | apply rN | apply rD)); exact Kd.R_mono HO_351001.out (fun _ hk => ⟨⟨hk.1.2, hk.2⟩, hk.1.1⟩)) hg hat)
              replace BK342 := am (blk_grown (g := gb342) (o := .cells #[.slice A0_0 l0_0.length c0_0, .slice A0_1 l0_1.length c0_1, .int .i64 a0_2] 27 (0, 0)) (by (with_reducible repeat (first | apply kB | apply kC | apply kE)); exact BK342.out) hg (Kd.R_ne HO_351000.out BK342.out (by decide)))
              replace BK343 := am (blk_grown (g := gb343) (o := .cells #[.slice none 0 0, .slice none 0 0, .int .i64 0] 27 (0, 0)) (by (with_reducible repeat (first | apply kB | apply kC | apply kE)); exact BK343.out) hg (Kd.R_ne HO_351000.out BK343.out (by decide)))
              replace BK350 := am (blk_grown (g := gb350) (o := .cells #[.slice Ao57 x351000_22.length co57, .slice Ao58 x351001_43.length co58, .int .i64 a0_2] 27 (0, 0)) (by (with_reducible repeat (first | apply kB | apply kC | apply kE)); exact BK350.out) hg (Kd.R_ne HO_351000.out BK350.out (by decide)))
              replace HO367 := am (Kd.R_after (ok := (fun k_ => some k_ ≠ (.slice Ao58 x351001_43.length co58 : Value).ownBlock ∧ some k_ ≠ (.slice Ao65 y359.length co65 : Value).ownBlock)) (by (with_reducible repeat (first | apply rA | apply rN | apply rD)); exact Kd.R_mono HO367.out (fun _ hk => ⟨⟨hk.1.2, hk.2⟩, hk.1.1.2⟩)) hg hat)
              replace HO361 := am (Kd.R_after (ok := (fun k_ => some k_ ≠ (.slice Ao58 x351001_43.length co58 : Value).ownBlock ∧ some k_ ≠ (v366 : Value).ownBlock)) (by (with_reducible repeat (first | apply rA | apply rN | apply rD)); exact Kd.R_mono HO361.out (fun _ hk => ⟨⟨hk.1.2, hk.2⟩, hk.1.1.2⟩)) hg hat)
              replace HB := am (hb)
              have HO364 := am (ho)
              clear HO_351000 ho hb hg hat
              refine hK.out _ _ ⟨(blk_cell BK350.out 0).trans rfl, (blk_cell BK350.out 1).trans rfl, (blk_cell BK350.out 2).trans rfl⟩ (fun hHeld => ?_)
              clear hK K
              refine norm_ (a' := ?_) ?_ ?_
              rotate_left
              ·show Act.put _ (some 102) _ = _
               simp only [Act.put, sI, s0_, s1_, i64_w, i32_w]
               rfl
              refine pure_ (i := 8) (N := some 107) (v := ?_) (a' := ?_) #[true, true, true, true, true, true, true, false, true, false, false, false] rfl rfl (any_of HT_.out (by kernel_rfl)) (fun _ _ _ h => h) (Or.inl ⟨by rfl, ?_⟩) ?_ ?_
              rotate_left
              ·intro w'
               go_simp
               with_reducible rfl
              rotate_left
              ·simp only [Act.put, sI, s0_, s1_, i64_w, i32_w]
               rfl
              exact norm_ (by simp only [putAll, Act.put, sI, s0_, s1_]) (hCont (.slice Ao65 y359.length co65, v363, v366) _ ⟨hHeld, (by (with_reducible repeat (first | apply rA | apply rN | apply rD)); exact Kd.R_mono HO361.out (fun _ hk => ⟨hk.2, ⟨hk.1.2, hk.1.1⟩⟩)), (by (with_reducible repeat (first | apply rA | apply rN | apply rD)); exact Kd.R_mono HO364.out (fun _ hk => ⟨hk.2.2, ⟨hk.2.1, hk.1⟩⟩)), (by (with_reducible repeat (first | apply rA | apply rN | apply rD)); exact Kd.R_mono HO367.out (fun _ hk => ⟨hk.1.2, ⟨hk.2, hk.1.1⟩⟩)), (by (with_reducible repeat (first | apply rA | apply rN | apply rD)); exact Kd.R_mono HO_351001.out (fun _ hk => ⟨hk.1.2, ⟨hk.2, hk.1.1⟩⟩)), (by (with_reducible repeat (first | apply kB | apply kC | apply kE)); exact BK342.out), (by (with_reducible repeat (first | apply kB | apply kC | apply kE)); exact BK343.out), (by (with_reducible repeat (first | apply kB | apply kC | apply kE)); exact BK350.out), (by repeat (with_reducible first | exact HB.out | apply bA | apply bN | apply bD | refine bS ?_ GE342.out | refine bS ?_ GE343.out | refine bS ?_ GE350.out))⟩)
            rintro ⟨v360, v363, v366⟩ w66 ⟨hS_, h0_, h1_, h2_, h3_, h4_, h5_, h6_, h7_⟩
            have HO361 := (⟨h0_⟩ : Aside0 (Kd.R (Kd.int .i64) 3 w66 w.heap.size (fun k_ => some k_ ≠ (v363 : Value).ownBlock ∧ some k_ ≠ (v366 : Value).ownBlock ∧ some k_ ≠ (.slice Ao58 x351001_43.length co58 : Value).ownBlock) v360 y359))
            have HO364 := (⟨h1_⟩ : Aside0 (Kd.R (Kd.int .i64) 3 w66 w.heap.size (fun k_ => some k_ ≠ (v360 : Value).ownBlock ∧ some k_ ≠ (v366 : Value).ownBlock ∧ some k_ ≠ (.slice Ao58 x351001_43.length co58 : Value).ownBlock) v363 y362))
            have HO367 := (⟨h2_⟩ : Aside0 (Kd.R (Kd.int .i64) 3 w66 w.heap.size (fun k_ => some k_ ≠ (v360 : Value).ownBlock ∧ some k_ ≠ (v363 : Value).ownBlock ∧ some k_ ≠ (.slice Ao58 x351001_43.length co58 : Value).ownBlock) v366 y365))
            replace HO_351001 := (⟨h3_⟩ : Aside0 (Kd.R (Kd.int .i64) 3 w66 w.heap.size (fun k_ => some k_ ≠ (v360 : Value).ownBlock ∧ some k_ ≠ (v363 : Value).ownBlock ∧ some k_ ≠ (v366 : Value).ownBlock) (.slice Ao58 x351001_43.length co58) x351001_43))
            replace BK342 := (⟨h4_⟩ : Aside0 (w66.heap[gb342]? = some (.cells #[.slice A0_0 l0_0.length c0_0, .slice A0_1 l0_1.length c0_1, .int .i64 a0_2] 27 (0, 0))))
            replace BK343 := (⟨h5_⟩ : Aside0 (w66.heap[gb343]? = some (.cells #[.slice none 0 0, .slice none 0 0, .int .i64 0] 27 (0, 0))))
            replace BK350 := (⟨h6_⟩ : Aside0 (w66.heap[gb350]? = some (.cells #[.slice Ao57 x351000_22.length co57, .slice Ao58 x351001_43.length co58, .int .i64 a0_2] 27 (0, 0))))
            replace HB := (⟨h7_⟩ : Aside0 (Below w.heap.size w w66))
            clear HO_351000 h0_ h1_ h2_ h3_ h4_ h5_ h6_ h7_
            have hHeld : w66.cell? ⟨gb350, 0, none⟩ = some (.slice Ao57 x351000_22.length co57) ∧ w66.cell? ⟨gb350, 1, none⟩ = some (.slice Ao58 x351001_43.length co58) ∧ w66.cell? ⟨gb350, 2, none⟩ = some (.int .i64 a0_2) := hS_
            obtain ⟨Ao68, co68, eo68⟩ := Kd.R_slice HO367.out
            (first | subst eo68 | (injection eo68 with f1_ f2_ f3_; have f4_ := f1_.symm; have f5_ := f3_.symm; clear f1_ f2_ f3_; subst f4_; subst f5_))
            refine norm_ (a' := ?_) ?_ ?_
            rotate_left
            ·simp only [putAll, Act.put, sI, s0_, s1_]
             rfl
            refine one_ (i := 7) (N := some 106) #[true, true, true, true, true, true, true, true, true, false, false, false] rfl rfl (one_of HT_.out (by kernel_rfl)) (by decide) (fun K hK => ?_)
            refine Kd.R_append_rows_step (Kd.int .i64) (w0 := w) w.heap.size (by rfl) (.tmp 104) (.tmp 105) 22 3 (.int .i64 0) 8 rfl Try.underlying22 info3 rfl (by decide) (by omega) (.slice Ao58 x351001_43.length co58) x351001_43 y365 _ _ _ (fun k_ => some k_ ≠ (v360 : Value).ownBlock ∧ some k_ ≠ (v363 : Value).ownBlock ∧ some k_ ≠ (.slice Ao68 y365.length co68 : Value).ownBlock) (fun _ => False) rfl rfl ?aO ?aR (fun _ _ h => h) (fun _ h => h.elim) ?aF ?aB ?aS ?aL ?_
            (case aR => repeat (first | exact (Kd.R_reads' HO367.out).2.2 | (with_reducible first | apply cA | apply cN | apply cD)))
            (case aB => exact (by repeat (with_reducible first | exact HB.out | apply bA | apply bN | apply bD | refine bS ?_ GE342.out | refine bS ?_ GE343.out | refine bS ?_ GE350.out)))
            (case aF => exact (fun k_ hk => ⟨Kd.fresh' (Kd.R_lt (by (with_reducible repeat (first | apply rA | apply rN | apply rD)); exact HO361.out)) k_ hk, Kd.fresh' (Kd.R_lt (by (with_reducible repeat (first | apply rA | apply rN | apply rD)); exact HO364.out)) k_ hk, Kd.fresh' (Kd.R_lt (by (with_reducible repeat (first | apply rA | apply rN | apply rD)); exact HO367.out)) k_ hk⟩))
            (case aO => exact (by (with_reducible repeat (first | apply rA | apply rN | apply rD)); exact HO_351001.out))
            (case aS => exact (below_size (by repeat (with_reducible first | exact HB.out | apply bA | apply bN | apply bD | refine bS ?_ GE342.out | refine bS ?_ GE343.out | refine bS ?_ GE350.out))))
            (case aL => have := LMc56.out; omega)
            intro v369 w67 ho hb hg hat
            rw [← Ny368.out] at ho
            replace BK342 := am (blk_grown (g := gb342) (o := .cells #[.slice A0_0 l0_0.length c0_0, .slice A0_1 l0_1.length c0_1, .int .i64 a0_2] 27 (0, 0)) (by (with_reducible repeat (first | apply kB | apply kC | apply kE)); exact BK342.out) hg (Kd.R_ne HO_351001.out BK342.out (by decide)))
            replace BK343 := am (blk_grown (g := gb343) (o := .cells #[.slice none 0 0, .slice none 0 0, .int .i64 0] 27 (0, 0)) (by (with_reducible repeat (first | apply kB | apply kC | apply kE)); exact BK343.out) hg (Kd.R_ne HO_351001.out BK343.out (by decide)))
            replace BK350 := am (blk_grown (g := gb350) (o := .cells #[.slice Ao57 x351000_22.length co57, .slice Ao58 x351001_43.length co58, .int .i64 a0_2] 27 (0, 0)) (by (with_reducible repeat (first | apply kB | apply kC | apply kE)); exact BK350.out) hg (Kd.R_ne HO_351001.out BK350.out (by decide)))
            replace HO361 := am (Kd.R_after (ok := (fun k_ => some k_ ≠ (v363 : Value).ownBlock ∧ some k_ ≠ (.slice Ao68 y365.length co68 : Value).ownBlock)) (by (with_reducible repeat (first | apply rA | apply rN | apply rD)); exact Kd.R_mono HO361.out (fun _ hk => ⟨⟨hk.1, hk.2.1⟩, hk.2.2⟩)) hg hat)
            replace HO364 := am (Kd.R_after (ok := (fun k_ => some k_ ≠ (v360 : Value).ownBlock ∧ some k_ ≠ (.slice Ao68 y365.length co68 : Value).ownBlock)) (by (with_reducible repeat (first | apply rA | apply rN | apply rD)); exact Kd.R_mono HO364.out (fun _ hk => ⟨⟨hk.1, hk.2.1⟩, hk.2.2⟩)) hg hat)
            replace HO367 := am (Kd.R_after (ok := (fun k_ => some k_ ≠ (v360 : Value).ownBlock ∧ some k_ ≠ (v363 : Value).ownBlock)) (by (with_reducible repeat (first | apply rA | apply rN | apply rD)); exact Kd.R_mono HO367.out (fun _ hk => ⟨⟨hk.1, hk.2.1⟩, hk.2.2⟩)) hg hat)
            replace HB := am (hb)
            have HO370 := am (ho)
            clear HO_351001 ho hb hg hat
            obtain ⟨Ao69, co69, eo69⟩ := Kd.R_slice HO364.out
            (first | subst eo69 | (injection eo69 with f1_ f2_ f3_; have f4_ := f1_.symm; have f5_ := f3_.symm; clear f1_ f2_ f3_; subst f4_; subst f5_))
            obtain ⟨Ao71, co71, eo71⟩ := Kd.R_slice HO370.out
            (first | subst eo71 | (injection eo71 with f1_ f2_ f3_; have f4_ := f1_.symm; have f5_ := f3_.symm; clear f1_ f2_ f3_; subst f4_; subst f5_))
            refine hK.out _ _ ⟨(blk_cell BK350.out 0).trans rfl, (blk_cell BK350.out 1).trans rfl, (blk_cell BK350.out 2).trans rfl⟩ (fun hHeld => ?_)
            clear hK K
            refine norm_ (a' := ?_) ?_ ?_
            rotate_left
            ·show Act.put _ (some 106) _ = _
             simp only [Act.put, sI, s0_, s1_, i64_w, i32_w]
             rfl
            refine last_ (i := 9) (N := none) #[true, true, true, true, true, true, true, true, true, true, false, false] rfl rfl (one_of HT_.out (by kernel_rfl)) (by decide) (fun K hK => ?_)
            have hs70 : w67.cell? ⟨gb350, 0, none⟩ = some (.slice Ao57 x351000_22.length co57) := (blk_cell BK350.out 0).trans rfl
            have hfs70 := blk_frozen BK350.out 0
            have hns70_0 := NB342_350.out
            have hns70_1 := NB343_350.out
            have hms70_0 := NB350_342.out
            have hms70_1 := NB350_343.out
            refine skip_ (w1 := ?_) (by rfl) rfl ?_ ?_
            rotate_left
            ·go_simp
             rfl
            refine hK.out _ _ ?_
            clear hK K
            refine pure_ (i := 10) (N := some 108) (v := ?_) (a' := ?_) #[true, true, true, true, true, true, true, true, true, true, true, false] rfl rfl (any_of HT_.out (by kernel_rfl)) (fun _ _ _ h => h) (Or.inl ⟨by rfl, ?_⟩) ?_ ?_
            rotate_left
            ·intro w'
             go_simp
             with_reducible rfl
            rotate_left
            ·simp only [Act.put, sI, s0_, s1_, i64_w, i32_w]
             rfl
            refine last_ (i := 11) (N := none) #[true, true, true, true, true, true, true, true, true, true, true, true] rfl rfl (one_of HT_.out (by kernel_rfl)) (by decide) (fun K hK => ?_)
            have hs72 : w67.cell? ⟨gb350, 1, none⟩ = some (.slice Ao58 x351001_43.length co58) := (blk_cell BK350.out 1).trans rfl
            have hfs72 := blk_frozen BK350.out 1
            have hns72_0 := NB342_350.out
            have hns72_1 := NB343_350.out
            have hms72_0 := NB350_342.out
            have hms72_1 := NB350_343.out
            refine skip_ (w1 := ?_) (by rfl) rfl ?_ ?_
            rotate_left
            ·go_simp
             rfl
            refine hK.out _ _ ?_
            clear hK K
            refine done_ (done_of HT_.out (by kernel_rfl)) ?_
            try go_wp2
            go_meet
            case rel => exact ⟨_, (y362), (y368), (a0_2), (.slice Ao69 y362.length co69), (.slice Ao71 y368.length co71), H', ⟨by have := HJ2.out; have := HJ22.out; have := HJ43.out; first | omega | exact Nat.le_refl _⟩, ⟨by (with_reducible repeat (first | apply rA | apply rN | apply rD)); exact Kd.R_mono (Kd.R_far (p := ⟨gb350, 1, none⟩) (Kd.R_far (p := ⟨gb350, 0, none⟩) (Kd.R_types HO364.out BK350.out (by decide)) (fun _ hk => hk.2) (.slice Ao69 y362.length co69)) (fun _ hk => hk.2) (.slice Ao71 y368.length co71)) (fun _ hk => hk.1.2)⟩, ⟨by (with_reducible repeat (first | apply rA | apply rN | apply rD)); exact Kd.R_mono (Kd.R_far (p := ⟨gb350, 1, none⟩) (Kd.R_far (p := ⟨gb350, 0, none⟩) (Kd.R_types HO370.out BK350.out (by decide)) (fun _ hk => hk.2) (.slice Ao69 y362.length co69)) (fun _ hk => hk.2) (.slice Ao71 y368.length co71)) (fun _ hk => hk.1.2.1)⟩, ⟨by (with_reducible repeat (first | apply kB | apply kC | apply kE)); refine blk_far ?_ NB342_350.out _; (with_reducible repeat (first | apply kB | apply kC | apply kE)); refine blk_far ?_ NB342_350.out _; (with_reducible repeat (first | apply kB | apply kC | apply kE)); exact BK342.out⟩, ⟨by (with_reducible repeat (first | apply kB | apply kC | apply kE)); refine blk_far ?_ NB343_350.out _; (with_reducible repeat (first | apply kB | apply kC | apply kE)); refine blk_far ?_ NB343_350.out _; (with_reducible repeat (first | apply kB | apply kC | apply kE)); exact BK343.out⟩, ⟨by (with_reducible repeat (first | apply kB | apply kC | apply kE)); refine blk_put (cs := #[.slice Ao69 y362.length co69, .slice Ao58 x351001_43.length co58, .int .i64 a0_2]) ?_ 1 _ rfl; (with_reducible repeat (first | apply kB | apply kC | apply kE)); refine blk_put (cs := #[.slice Ao57 x351000_22.length co57, .slice Ao58 x351001_43.length co58, .int .i64 a0_2]) ?_ 0 _ rfl; (with_reducible repeat (first | apply kB | apply kC | apply kE)); exact BK350.out⟩, ⟨by repeat (with_reducible first | exact HB.out | apply bA | apply bN | apply bD | refine bS ?_ GE342.out | refine bS ?_ GE343.out | refine bS ?_ GE350.out)⟩⟩
           ·rw [if_neg c56] at H
            exact absurd H (by simp)
          ·rw [if_neg c55] at H
           exact absurd H (by simp)
         ·rw [if_neg c54] at H
          have c54b0 : (a1 == 0) = false := beq_eq_false_iff_ne.mpr c54
          have c54b1 : (a1 != 0) = true := bne_iff_ne.mpr c54
          (first | rw [c54b0] | (simp only [i64_w, i32_w]; rw [c54b0]) | skip)
          by_cases c73 : a1 = 1
          ·rw [if_pos c73] at H
           have c73b0 : (a1 == 1) = true := beq_iff_eq.mpr c73
           have c73b1 : (a1 != 1) = false := bne_eq_false_iff_eq.mpr c73
           clear c73
           obtain ⟨y371, hy371⟩ : ∃ y_ : List Int, y_ = (([x8_43] : List Int)) := ⟨_, rfl⟩
           replace H : (if x351000_22.length + y371.length < 17592186044416 then (impl_State_stepped.j3 kj43 (x351000_22 ++ y371) x351001_43 a0_2) else (none)) = some (r1, r2, r3, r4) := by first | (rw [hy371]; with_reducible exact H) | (have H2_ := (Option.bind_some _ _).symm.trans H; rw [hy371]; with_reducible exact H2_) | (have H2_ := (Option.bind_some _ _).symm.trans H; with_reducible exact H2_) | with_reducible exact H | (rw [hy371]; exact H) | exact H
           have Ny371 := am hy371
           clear hy371
           by_cases c74 : x351000_22.length + y371.length < 17592186044416
           ·rw [if_pos c74] at H
            have LMc74 := am c74
            clear c74
            obtain ⟨y374, hy374⟩ : ∃ y_ : List Int, y_ = (x351000_22 ++ y371) := ⟨_, rfl⟩
            replace H : (impl_State_stepped.j3 kj43 y374 x351001_43 a0_2) = some (r1, r2, r3, r4) := by first | (rw [hy374]; with_reducible exact H) | (have H2_ := (Option.bind_some _ _).symm.trans H; rw [hy374]; with_reducible exact H2_) | (have H2_ := (Option.bind_some _ _).symm.trans H; with_reducible exact H2_) | with_reducible exact H | (rw [hy374]; exact H) | exact H
            have Ny374 := am hy374
            clear hy374
            have H' := am H
            clear H
            have hnb75 := NB350_342.out
            have hnc75 := NB342_350.out
            have hnb76 := NB350_343.out
            have hnc76 := NB343_350.out
            have hcz77_0 : wc.cell? ⟨gb350, 0, none⟩ = some (u351000) := (blk_cell BK350.out 0).trans rfl
            have hcz77_1 : wc.cell? ⟨gb350, 1, none⟩ = some (u351001) := (blk_cell BK350.out 1).trans rfl
            have hcz77_2 : wc.cell? ⟨gb350, 2, none⟩ = some (.int .i64 a0_2) := (blk_cell BK350.out 2).trans rfl
            have hfz77_0 := blk_frozen BK350.out 0
            have hfz77_1 := blk_frozen BK350.out 1
            have hfz77_2 := blk_frozen BK350.out 2
            go_wp2_with (first | ((with_reducible refine gate_dst (N := 114) rfl ?_); (try (refine gate_guard (by rfl) ?_; dsimp only)); refine Kd.R_lit (Kd.int .i64) _ 3 ?hg (N := 114) ?hd (xs := ([x8_43] : List Int)) (inner := [.int .i64 x8_43]) (ok := fun _ => True) (okp := fun _ => True) ?hr ?hp (fun _ hk => hk) trivial (Below.refl _ _) (Nat.le_refl _) (by simp) ?_; (case hd => rfl); (case hg => rfl); (case hr => first | (go_simp; done) | (go_simp; rfl)); (case hp => exact (Reps.one (show Kd.M (Kd.int .i64) _ _ _ x8_43 [.int .i64 x8_43] from rfl) (Reps.none _ _))); intro v372 w78 ho79 hb hg_ hnew_; clear hg_ hnew_; (first | rw [← Ny371.out] at ho79 | (simp only [Int.reduceToNat] at ho79; rw [← Ny371.out] at ho79)); have HO373 := am (Kd.R_lower (Kd.R_new' (Kd.R_new' ho79 (Kd.R_lt (by (with_reducible repeat (first | apply rA | apply rN | apply rD)); exact HO_351000.out))) (Kd.R_lt (by (with_reducible repeat (first | apply rA | apply rN | apply rD)); exact HO_351001.out))) (below_size (by repeat (with_reducible first | exact HB.out | apply bA | apply bN | apply bD | refine bS ?_ GE342.out | refine bS ?_ GE343.out | refine bS ?_ GE350.out)))); replace HO_351000 := am (Kd.R_elder' (by (with_reducible repeat (first | apply rA | apply rN | apply rD)); exact HO_351000.out) (Kd.R_base ho79) hb); replace HO_351001 := am (Kd.R_elder' (by (with_reducible repeat (first | apply rA | apply rN | apply rD)); exact HO_351001.out) (Kd.R_base ho79) hb); replace BK342 := am (blk_below (g := gb342) (o := .cells #[.slice A0_0 l0_0.length c0_0, .slice A0_1 l0_1.length c0_1, .int .i64 a0_2] 27 (0, 0)) (by (with_reducible repeat (first | apply kB | apply kC | apply kE)); exact BK342.out) hb); replace BK343 := am (blk_below (g := gb343) (o := .cells #[.slice none 0 0, .slice none 0 0, .int .i64 0] 27 (0, 0)) (by (with_reducible repeat (first | apply kB | apply kC | apply kE)); exact BK343.out) hb); replace BK350 := am (blk_below (g := gb350) (o := .cells #[u351000, u351001, .int .i64 a0_2] 27 (0, 0)) (by (with_reducible repeat (first | apply kB | apply kC | apply kE)); exact BK350.out) hb); replace HB := am (below_step (by repeat (with_reducible first | exact HB.out | apply bA | apply bN | apply bD | refine bS ?_ GE342.out | refine bS ?_ GE343.out | refine bS ?_ GE350.out)) hb); clear hb ho79; obtain ⟨Ao81, co81, eo81⟩ := Kd.R_slice HO373.out; subst eo81) | ((with_reducible refine gate_builtin (b := .append) (xs := #[.tmp 112, .tmp 114]) rfl ?_); (try (refine gate_guard (by rfl) ?_; dsimp only)); at_builtin; refine Kd.R_append_rows (Kd.int .i64) (w0 := w) w.heap.size rfl (.tmp 112) (.tmp 114) 22 3 (.int .i64 0) 8 rfl Try.underlying22 info3 rfl (by decide) (by omega) u351000 x351000_22 y371 _ _ _ (fun k_ => some k_ ≠ (u351001 : Value).ownBlock ∧ some k_ ≠ (.slice Ao81 y371.length co81 : Value).ownBlock) (fun _ => False) rfl rfl ?aO ?aR (fun _ _ h => h) (fun _ h => h.elim) ?aF ?aB ?aS ?aL ?_; (case aR => repeat (first | exact (Kd.R_reads' HO373.out).2.2 | (with_reducible first | apply cA | apply cN | apply cD))); (case aB => exact (by repeat (with_reducible first | exact HB.out | apply bA | apply bN | apply bD | refine bS ?_ GE342.out | refine bS ?_ GE343.out | refine bS ?_ GE350.out))); (case aF => exact (fun k_ hk => ⟨Kd.fresh' (Kd.R_lt (by (with_reducible repeat (first | apply rA | apply rN | apply rD)); exact HO_351001.out)) k_ hk, Kd.fresh' (Kd.R_lt (by (with_reducible repeat (first | apply rA | apply rN | apply rD)); exact HO373.out)) k_ hk⟩)); (case aO => exact (by (with_reducible repeat (first | apply rA | apply rN | apply rD)); exact HO_351000.out)); (case aS => exact (below_size (by repeat (with_reducible first | exact HB.out | apply bA | apply bN | apply bD | refine bS ?_ GE342.out | refine bS ?_ GE343.out | refine bS ?_ GE350.out)))); (case aL => have := LMc74.out; omega); intro v375 w80 ho hb hg hat; rw [← Ny374.out] at ho; replace HO_351001 := am (Kd.R_after (ok := (fun k_ => some k_ ≠ (.slice Ao81 y371.length co81 : Value).ownBlock)) (by (with_reducible repeat (first | apply rA | apply rN | apply rD)); exact Kd.R_mono HO_351001.out (fun _ hk => ⟨hk.2, hk.1⟩)) hg hat); replace BK342 := am (blk_grown (g := gb342) (o := .cells #[.slice A0_0 l0_0.length c0_0, .slice A0_1 l0_1.length c0_1, .int .i64 a0_2] 27 (0, 0)) (by (with_reducible repeat (first | apply kB | apply kC | apply kE)); exact BK342.out) hg (Kd.R_ne HO_351000.out BK342.out (by decide))); replace BK343 := am (blk_grown (g := gb343) (o := .cells #[.slice none 0 0, .slice none 0 0, .int .i64 0] 27 (0, 0)) (by (with_reducible repeat (first | apply kB | apply kC | apply kE)); exact BK343.out) hg (Kd.R_ne HO_351000.out BK343.out (by decide))); replace BK350 := am (blk_grown (g := gb350) (o := .cells #[u351000, u351001, .int .i64 a0_2] 27 (0, 0)) (by (with_reducible repeat (first | apply kB | apply kC | apply kE)); exact BK350.out) hg (Kd.R_ne HO_351000.out BK350.out (by decide))); replace HO373 := am (Kd.R_after (ok := (fun k_ => some k_ ≠ (u351001 : Value).ownBlock)) (by (with_reducible repeat (first | apply rA | apply rN | apply rD)); exact Kd.R_mono HO373.out (fun _ hk => ⟨hk.2, hk.1.2⟩)) hg hat); replace HB := am (hb); have HO376 := am (ho); clear HO_351000; clear ho hb hg hat; obtain ⟨Ao82, co82, eo82⟩ := Kd.R_slice HO376.out; subst eo82; have hcz83_0 : w80.cell? ⟨gb350, 0, none⟩ = some (u351000) := (blk_cell BK350.out 0).trans rfl; have hcz83_1 : w80.cell? ⟨gb350, 1, none⟩ = some (u351001) := (blk_cell BK350.out 1).trans rfl; have hcz83_2 : w80.cell? ⟨gb350, 2, none⟩ = some (.int .i64 a0_2) := (blk_cell BK350.out 2).trans rfl; have hfz83_0 := blk_frozen BK350.out 0; have hfz83_1 := blk_frozen BK350.out 1; have hfz83_2 := blk_frozen BK350.out 2))
            go_meet
            case rel => exact ⟨_, (y374), (x351001_43), (a0_2), (.slice Ao82 y374.length co82), (u351001), H', ⟨by have := HJ2.out; have := HJ22.out; have := HJ43.out; first | omega | exact Nat.le_refl _⟩, ⟨by (with_reducible repeat (first | apply rA | apply rN | apply rD)); exact Kd.R_mono (Kd.R_far (p := ⟨gb350, 0, none⟩) (Kd.R_types HO376.out BK350.out (by decide)) (fun _ hk => hk.2) (.slice Ao82 y374.length co82)) (fun _ hk => hk.1.1)⟩, ⟨by (with_reducible repeat (first | apply rA | apply rN | apply rD)); exact Kd.R_mono (Kd.R_far (p := ⟨gb350, 0, none⟩) (Kd.R_types HO_351001.out BK350.out (by decide)) (fun _ hk => hk.2) (.slice Ao82 y374.length co82)) (fun _ hk => hk.1.2)⟩, ⟨by (with_reducible repeat (first | apply kB | apply kC | apply kE)); refine blk_far ?_ NB342_350.out _; (with_reducible repeat (first | apply kB | apply kC | apply kE)); exact BK342.out⟩, ⟨by (with_reducible repeat (first | apply kB | apply kC | apply kE)); refine blk_far ?_ NB343_350.out _; (with_reducible repeat (first | apply kB | apply kC | apply kE)); exact BK343.out⟩, ⟨by (with_reducible repeat (first | apply kB | apply kC | apply kE)); refine blk_put (cs := #[u351000, u351001, .int .i64 a0_2]) ?_ 0 _ rfl; (with_reducible repeat (first | apply kB | apply kC | apply kE)); exact BK350.out⟩, ⟨by repeat (with_reducible first | exact HB.out | apply bA | apply bN | apply bD | refine bS ?_ GE342.out | refine bS ?_ GE343.out | refine bS ?_ GE350.out)⟩⟩
           ·rw [if_neg c74] at H
            exact absurd H (by simp)
          ·rw [if_neg c73] at H
           have c73b0 : (a1 == 1) = false := beq_eq_false_iff_ne.mpr c73
           have c73b1 : (a1 != 1) = true := bne_iff_ne.mpr c73
           by_cases c84 : a1 = 2
           ·rw [if_pos c84] at H
            have c84b0 : (a1 == 2) = true := beq_iff_eq.mpr c84
            have c84b1 : (a1 != 2) = false := bne_eq_false_iff_eq.mpr c84
            clear c84
            obtain ⟨y377, hy377⟩ : ∃ y_ : List Int, y_ = (([x7_22] : List Int)) := ⟨_, rfl⟩
            replace H : (if x351001_43.length + y377.length < 17592186044416 then (impl_State_stepped.j3 kj43 x351000_22 (x351001_43 ++ y377) a0_2) else (none)) = some (r1, r2, r3, r4) := by first | (rw [hy377]; with_reducible exact H) | (have H2_ := (Option.bind_some _ _).symm.trans H; rw [hy377]; with_reducible exact H2_) | (have H2_ := (Option.bind_some _ _).symm.trans H; with_reducible exact H2_) | with_reducible exact H | (rw [hy377]; exact H) | exact H
            have Ny377 := am hy377
            clear hy377
            by_cases c85 : x351001_43.length + y377.length < 17592186044416
            ·rw [if_pos c85] at H
             have LMc85 := am c85
             clear c85
             obtain ⟨y380, hy380⟩ : ∃ y_ : List Int, y_ = (x351001_43 ++ y377) := ⟨_, rfl⟩
             replace H : (impl_State_stepped.j3 kj43 x351000_22 y380 a0_2) = some (r1, r2, r3, r4) := by first | (rw [hy380]; with_reducible exact H) | (have H2_ := (Option.bind_some _ _).symm.trans H; rw [hy380]; with_reducible exact H2_) | (have H2_ := (Option.bind_some _ _).symm.trans H; with_reducible exact H2_) | with_reducible exact H | (rw [hy380]; exact H) | exact H
             have Ny380 := am hy380
             clear hy380
             have H' := am H
             clear H
             have hnb86 := NB350_342.out
             have hnc86 := NB342_350.out
             have hnb87 := NB350_343.out
             have hnc87 := NB343_350.out
             have hcz88_0 : wc.cell? ⟨gb350, 0, none⟩ = some (u351000) := (blk_cell BK350.out 0).trans rfl
             have hcz88_1 : wc.cell? ⟨gb350, 1, none⟩ = some (u351001) := (blk_cell BK350.out 1).trans rfl
             have hcz88_2 : wc.cell? ⟨gb350, 2, none⟩ = some (.int .i64 a0_2) := (blk_cell BK350.out 2).trans rfl
             have hfz88_0 := blk_frozen BK350.out 0
             have hfz88_1 := blk_frozen BK350.out 1
             have hfz88_2 := blk_frozen BK350.out 2
             go_wp2_with (first | ((with_reducible refine gate_dst (N := 122) rfl ?_); (try (refine gate_guard (by rfl) ?_; dsimp only)); refine Kd.R_lit (Kd.int .i64) _ 3 ?hg (N := 122) ?hd (xs := ([x7_22] : List Int)) (inner := [.int .i64 x7_22]) (ok := fun _ => True) (okp := fun _ => True) ?hr ?hp (fun _ hk => hk) trivial (Below.refl _ _) (Nat.le_refl _) (by simp) ?_; (case hd => rfl); (case hg => rfl); (case hr => first | (go_simp; done) | (go_simp; rfl)); (case hp => exact (Reps.one (show Kd.M (Kd.int .i64) _ _ _ x7_22 [.int .i64 x7_22] from rfl) (Reps.none _ _))); intro v378 w89 ho90 hb hg_ hnew_; clear hg_ hnew_; (first | rw [← Ny377.out] at ho90 | (simp only [Int.reduceToNat] at ho90; rw [← Ny377.out] at ho90)); have HO379 := am (Kd.R_lower (Kd.R_new' (Kd.R_new' ho90 (Kd.R_lt (by (with_reducible repeat (first | apply rA | apply rN | apply rD)); exact HO_351000.out))) (Kd.R_lt (by (with_reducible repeat (first | apply rA | apply rN | apply rD)); exact HO_351001.out))) (below_size (by repeat (with_reducible first | exact HB.out | apply bA | apply bN | apply bD | refine bS ?_ GE342.out | refine bS ?_ GE343.out | refine bS ?_ GE350.out)))); replace HO_351000 := am (Kd.R_elder' (by (with_reducible repeat (first | apply rA | apply rN | apply rD)); exact HO_351000.out) (Kd.R_base ho90) hb); replace HO_351001 := am (Kd.R_elder' (by (with_reducible repeat (first | apply rA | apply rN | apply rD)); exact HO_351001.out) (Kd.R_base ho90) hb); replace BK342 := am (blk_below (g := gb342) (o := .cells #[.slice A0_0 l0_0.length c0_0, .slice A0_1 l0_1.length c0_1, .int .i64 a0_2] 27 (0, 0)) (by (with_reducible repeat (first | apply kB | apply kC | apply kE)); exact BK342.out) hb); replace BK343 := am (blk_below (g := gb343) (o := .cells #[.slice none 0 0, .slice none 0 0, .int .i64 0] 27 (0, 0)) (by (with_reducible repeat (first | apply kB | apply kC | apply kE)); exact BK343.out) hb); replace BK350 := am (blk_below (g := gb350) (o := .cells #[u351000, u351001, .int .i64 a0_2] 27 (0, 0)) (by (with_reducible repeat (first | apply kB | apply kC | apply kE)); exact BK350.out) hb); replace HB := am (below_step (by repeat (with_reducible first | exact HB.out | apply bA | apply bN | apply bD | refine bS ?_ GE342.out | refine bS ?_ GE343.out | refine bS ?_ GE350.out)) hb); clear hb ho90; obtain ⟨Ao92, co92, eo92⟩ := Kd.R_slice HO379.out; subst eo92) | ((with_reducible refine gate_builtin (b := .append) (xs := #[.tmp 120, .tmp 122]) rfl ?_); (try (refine gate_guard (by rfl) ?_; dsimp only)); at_builtin; refine Kd.R_append_rows (Kd.int .i64) (w0 := w) w.heap.size rfl (.tmp 120) (.tmp 122) 22 3 (.int .i64 0) 8 rfl Try.underlying22 info3 rfl (by decide) (by omega) u351001 x351001_43 y377 _ _ _ (fun k_ => some k_ ≠ (u351000 : Value).ownBlock ∧ some k_ ≠ (.slice Ao92 y377.length co92 : Value).ownBlock) (fun _ => False) rfl rfl ?aO ?aR (fun _ _ h => h) (fun _ h => h.elim) ?aF ?aB ?aS ?aL ?_; (case aR => repeat (first | exact (Kd.R_reads' HO379.out).2.2 | (with_reducible first | apply cA | apply cN | apply cD))); (case aB => exact (by repeat (with_reducible first | exact HB.out | apply bA | apply bN | apply bD | refine bS ?_ GE342.out | refine bS ?_ GE343.out | refine bS ?_ GE350.out))); (case aF => exact (fun k_ hk => ⟨Kd.fresh' (Kd.R_lt (by (with_reducible repeat (first | apply rA | apply rN | apply rD)); exact HO_351000.out)) k_ hk, Kd.fresh' (Kd.R_lt (by (with_reducible repeat (first | apply rA | apply rN | apply rD)); exact HO379.out)) k_ hk⟩)); (case aO => exact (by (with_reducible repeat (first | apply rA | apply rN | apply rD)); exact HO_351001.out)); (case aS => exact (below_size (by repeat (with_reducible first | exact HB.out | apply bA | apply bN | apply bD | refine bS ?_ GE342.out | refine bS ?_ GE343.out | refine bS ?_ GE350.out)))); (case aL => have := LMc85.out; omega); intro v381 w91 ho hb hg hat; rw [← Ny380.out] at ho; replace HO_351000 := am (Kd.R_after (ok := (fun k_ => some k_ ≠ (.slice Ao92 y377.length co92 : Value).ownBlock)) (by (with_reducible repeat (first | apply rA | apply rN | apply rD)); exact Kd.R_mono HO_351000.out (fun _ hk => ⟨hk.2, hk.1⟩)) hg hat); replace BK342 := am (blk_grown (g := gb342) (o := .cells #[.slice A0_0 l0_0.length c0_0, .slice A0_1 l0_1.length c0_1, .int .i64 a0_2] 27 (0, 0)) (by (with_reducible repeat (first | apply kB | apply kC | apply kE)); exact BK342.out) hg (Kd.R_ne HO_351001.out BK342.out (by decide))); replace BK343 := am (blk_grown (g := gb343) (o := .cells #[.slice none 0 0, .slice none 0 0, .int .i64 0] 27 (0, 0)) (by (with_reducible repeat (first | apply kB | apply kC | apply kE)); exact BK343.out) hg (Kd.R_ne HO_351001.out BK343.out (by decide))); replace BK350 := am (blk_grown (g := gb350) (o := .cells #[u351000, u351001, .int .i64 a0_2] 27 (0, 0)) (by (with_reducible repeat (first | apply kB | apply kC | apply kE)); exact BK350.out) hg (Kd.R_ne HO_351001.out BK350.out (by decide))); replace HO379 := am (Kd.R_after (ok := (fun k_ => some k_ ≠ (u351000 : Value).ownBlock)) (by (with_reducible repeat (first | apply rA | apply rN | apply rD)); exact Kd.R_mono HO379.out (fun _ hk => ⟨hk.1.2, hk.2⟩)) hg hat); replace HB := am (hb); have HO382 := am (ho); clear HO_351001; clear ho hb hg hat; obtain ⟨Ao93, co93, eo93⟩ := Kd.R_slice HO382.out; subst eo93; have hcz94_0 : w91.cell? ⟨gb350, 0, none⟩ = some (u351000) := (blk_cell BK350.out 0).trans rfl; have hcz94_1 : w91.cell? ⟨gb350, 1, none⟩ = some (u351001) := (blk_cell BK350.out 1).trans rfl; have hcz94_2 : w91.cell? ⟨gb350, 2, none⟩ = some (.int .i64 a0_2) := (blk_cell BK350.out 2).trans rfl; have hfz94_0 := blk_frozen BK350.out 0; have hfz94_1 := blk_frozen BK350.out 1; have hfz94_2 := blk_frozen BK350.out 2))
             go_meet
             case rel => exact ⟨_, (x351000_22), (y380), (a0_2), (u351000), (.slice Ao93 y380.length co93), H', ⟨by have := HJ2.out; have := HJ22.out; have := HJ43.out; first | omega | exact Nat.le_refl _⟩, ⟨by (with_reducible repeat (first | apply rA | apply rN | apply rD)); exact Kd.R_mono (Kd.R_far (p := ⟨gb350, 1, none⟩) (Kd.R_types HO_351000.out BK350.out (by decide)) (fun _ hk => hk.2) (.slice Ao93 y380.length co93)) (fun _ hk => hk.1.2)⟩, ⟨by (with_reducible repeat (first | apply rA | apply rN | apply rD)); exact Kd.R_mono (Kd.R_far (p := ⟨gb350, 1, none⟩) (Kd.R_types HO382.out BK350.out (by decide)) (fun _ hk => hk.2) (.slice Ao93 y380.length co93)) (fun _ hk => hk.1.1)⟩, ⟨by (with_reducible repeat (first | apply kB | apply kC | apply kE)); refine blk_far ?_ NB342_350.out _; (with_reducible repeat (first | apply kB | apply kC | apply kE)); exact BK342.out⟩, ⟨by (with_reducible repeat (first | apply kB | apply kC | apply kE)); refine blk_far ?_ NB343_350.out _; (with_reducible repeat (first | apply kB | apply kC | apply kE)); exact BK343.out⟩, ⟨by (with_reducible repeat (first | apply kB | apply kC | apply kE)); refine blk_put (cs := #[u351000, u351001, .int .i64 a0_2]) ?_ 1 _ rfl; (with_reducible repeat (first | apply kB | apply kC | apply kE)); exact BK350.out⟩, ⟨by repeat (with_reducible first | exact HB.out | apply bA | apply bN | apply bD | refine bS ?_ GE342.out | refine bS ?_ GE343.out | refine bS ?_ GE350.out)⟩⟩
            ·rw [if_neg c85] at H
             exact absurd H (by simp)
           ·rw [if_neg c84] at H
            have c84b0 : (a1 == 2) = false := beq_eq_false_iff_ne.mpr c84
            have c84b1 : (a1 != 2) = true := bne_iff_ne.mpr c84
            try clear hms33_0
            try clear hms33_1
            try clear hms34_0
            try clear hms34_1
            try clear hms35_0
            try clear hms35_1
            try clear hms70_0
            try clear hms70_1
            try clear hms72_0
            try clear hms72_1
            try clear hns33_0
            try clear hns33_1
            try clear hns34_0
            try clear hns34_1
            try clear hns35_0
            try clear hns35_1
            try clear hns70_0
            try clear hns70_1
            try clear hns72_0
            try clear hns72_1
            clear c84
            obtain ⟨ccv, hccv⟩ : ∃ j_ : Int, (if x7_22 = x8_43 then (wrap64 (a0_2 + 1)) else a0_2) = j_ := ⟨_, rfl⟩
            rw [hccv] at H
            have HNS0 : Aside0 (x351000_22.length ≤ 1000) := ⟨Nat.le_of_not_lt fun h_ => by rw [if_pos h_] at H; cases H⟩
            rw [if_neg (by have := HNS0.out; omega)] at H
            have HNS1 : Aside0 (x351001_43.length ≤ 1000) := ⟨Nat.le_of_not_lt fun h_ => by rw [if_pos h_] at H; cases H⟩
            rw [if_neg (by have := HNS1.out; omega)] at H
            have HD := am H
            have HCC := am hccv
            clear hccv H
            have hcz900_0 : wc.cell? ⟨gb350, 0, none⟩ = some (u351000) := (blk_cell BK350.out 0).trans rfl
            have hfz900_0 := blk_frozen BK350.out 0
            have hcz900_1 : wc.cell? ⟨gb350, 1, none⟩ = some (u351001) := (blk_cell BK350.out 1).trans rfl
            have hfz900_1 := blk_frozen BK350.out 1
            have hcz900_2 : wc.cell? ⟨gb350, 2, none⟩ = some (.int .i64 a0_2) := (blk_cell BK350.out 2).trans rfl
            have hfz900_2 := blk_frozen BK350.out 2
            go_upto_if 66 with (fail)
            go_cut [] (fun wc => Aside0 (Kd.R (Kd.int .i64) 3 wc w.heap.size (fun k_ => some k_ ≠ (u351001 : Value).ownBlock) u351000 x351000_22) ∧ Aside0 (Kd.R (Kd.int .i64) 3 wc w.heap.size (fun k_ => some k_ ≠ (u351000 : Value).ownBlock) u351001 x351001_43) ∧ Aside0 (wc.heap[gb342]? = some (.cells #[(.slice A0_0 l0_0.length c0_0), (.slice A0_1 l0_1.length c0_1), .int .i64 a0_2] 27 (0, 0))) ∧ Aside0 (wc.heap[gb343]? = some (.cells #[(.slice none 0 0), (.slice none 0 0), .int .i64 0] 27 (0, 0))) ∧ Aside0 (wc.heap[gb350]? = some (.cells #[u351000, u351001, .int .i64 ccv] 27 (0, 0))) ∧ Aside0 (Below w.heap.size w wc))
            case first =>
             by_cases c95 : x7_22 = x8_43
             ·have c95b0 : (x7_22 == x8_43) = true := beq_iff_eq.mpr c95
              have hq : wrap64 (a0_2 + 1) = ccv := by have h_ := HCC.out; rw [if_pos c95] at h_; exact h_
              clear c95
              go_wp2
              go_meet
              case rel => exact ⟨⟨Kd.R_mono (Kd.R_far (p := ⟨gb350, 2, none⟩) (Kd.R_types HO_351000.out BK350.out (by decide)) (fun _ hk => hk.2) _) (fun _ h_ => h_.1)⟩, ⟨Kd.R_mono (Kd.R_far (p := ⟨gb350, 2, none⟩) (Kd.R_types HO_351001.out BK350.out (by decide)) (fun _ hk => hk.2) _) (fun _ h_ => h_.1)⟩, ⟨blk_far BK342.out NB342_350.out _⟩, ⟨blk_far BK343.out NB343_350.out _⟩, ⟨blk_put (cs := #[u351000, u351001, .int .i64 a0_2]) BK350.out 2 _ (by rw [← hq]; rfl)⟩, ⟨bS HB.out GE350.out⟩⟩
             ·have c95b0 : (x7_22 == x8_43) = false := beq_eq_false_iff_ne.mpr c95
              have hq : a0_2 = ccv := by have h_ := HCC.out; rw [if_neg c95] at h_; exact h_
              clear c95
              go_wp2
              go_meet
              case rel => exact ⟨HO_351000, HO_351001, BK342, BK343, ⟨by rw [← hq]; exact BK350.out⟩, HB⟩
            case rest =>
             clear HO_351000 HO_351001 BK342 BK343 BK350 HB hcz900_0 hfz900_0 hcz900_1 hfz900_1 hcz900_2 hfz900_2
             obtain ⟨HO_351000, HO_351001, BK342, BK343, BK350, HB⟩ := hcut
             obtain ⟨Ao_, co_, eo_⟩ := Kd.R_slice HO_351000.out
             obtain ⟨Av_, cv_, ev_⟩ := Kd.R_slice HO_351001.out
             have hcz901_0 : wc.cell? ⟨gb350, 0, none⟩ = some ((.slice Ao_ x351000_22.length co_)) := by rw [← eo_]; exact (blk_cell BK350.out 0).trans rfl
             have hfz901_0 := blk_frozen BK350.out 0
             have hcz901_1 : wc.cell? ⟨gb350, 1, none⟩ = some ((.slice Av_ x351001_43.length cv_)) := by rw [← ev_]; exact (blk_cell BK350.out 1).trans rfl
             have hfz901_1 := blk_frozen BK350.out 1
             have hcz901_2 : wc.cell? ⟨gb350, 2, none⟩ = some (.int .i64 ccv) := (blk_cell BK350.out 2).trans rfl
             have hfz901_2 := blk_frozen BK350.out 2
             have EO_ := am eo_
             have EV_ := am ev_
             clear eo_ ev_
             go_upto_region 12 with (fail)
             have KP := am (blk_new wc (.cells #[u351000, u351001] 22))
             have n0_ := am (Kd.R_alloc HO_351000.out (.cells #[u351000, u351001] 22))
             have n1_ := am (Kd.R_alloc HO_351001.out (.cells #[u351000, u351001] 22))
             have n2_ := am (kE BK342.out (.cells #[u351000, u351001] 22))
             have n3_ := am (kE BK343.out (.cells #[u351000, u351001] 22))
             have n4_ := am (kE BK350.out (.cells #[u351000, u351001] 22))
             have n5_ := am (below_alloc HB.out (.cells #[u351000, u351001] 22))
             go_wp2
             rw [← EO_.out, ← EV_.out]
             clear EO_ EV_
             generalize hwd : wc.alloc (.cells #[u351000, u351001] 22) = wd at KP n0_ n1_ n2_ n3_ n4_ n5_ ⊢
             clear hwd
             generalize wc.heap.size = gp at KP ⊢
             clear HO_351000 HO_351001 BK342 BK343 BK350 HB hcz901_0 hfz901_0 hcz901_1 hfz901_1 hcz901_2 hfz901_2
             have HO_351000 := n0_
             have HO_351001 := n1_
             have BK342 := n2_
             have BK343 := n3_
             have BK350 := n4_
             have HB := n5_
             clear n0_ n1_ n2_ n3_ n4_ n5_
             go_loopg [77] 2 (fun gg v77 wr => ∃ (i : Nat) (X1 Y1 : List Int), v77 = .int .i64 (i : Nat) ∧ i ≤ 2 ∧ 2 - i ≤ gg ∧ Aside0 (X1 = if i = 0 then x351000_22 else swpL x8_43 x7_22 x351000_22) ∧ Aside0 (Y1 = if i = 2 then swpL x8_43 x7_22 x351001_43 else x351001_43) ∧ Aside0 (Kd.R (Kd.int .i64) 3 wr w.heap.size (fun k_ => some k_ ≠ (u351001 : Value).ownBlock) u351000 X1) ∧ Aside0 (Kd.R (Kd.int .i64) 3 wr w.heap.size (fun k_ => some k_ ≠ (u351000 : Value).ownBlock) u351001 Y1) ∧ Aside0 (wr.heap[gb342]? = some (.cells #[(.slice A0_0 l0_0.length c0_0), (.slice A0_1 l0_1.length c0_1), .int .i64 a0_2] 27 (0, 0))) ∧ Aside0 (wr.heap[gb343]? = some (.cells #[(.slice none 0 0), (.slice none 0 0), .int .i64 0] 27 (0, 0))) ∧ Aside0 (wr.heap[gb350]? = some (.cells #[u351000, u351001, .int .i64 ccv] 27 (0, 0))) ∧ Aside0 (Below w.heap.size w wr) ∧ Aside0 (wr.heap[gp]? = some (.cells #[u351000, u351001] 22 (0, 0))))
             case atStart => exact ⟨0, _, _, rfl, by omega, by omega, ⟨rfl⟩, ⟨rfl⟩, HO_351000, HO_351001, BK342, BK343, BK350, HB, KP⟩
             case round =>
              clear HO_351000 HO_351001 BK342 BK343 BK350 HB KP
              obtain ⟨i, X1, Y1, rfl, hi, hgg, HX1, HY1, HO_351000, HO_351001, BK342, BK343, BK350, HB, KP⟩ := hrel
              have hi3 : i = 0 ∨ i = 1 ∨ i = 2 := by omega
              rcases hi3 with rfl | rfl | rfl
              ·have HGG := am hgg
               clear hgg hi
               have e1_ : x351000_22 = X1 := HX1.out.symm
               have e2_ : x351001_43 = Y1 := HY1.out.symm
               subst e1_
               subst e2_
               clear HX1 HY1
               have hk0 : wr.cell? ⟨gp, 0, none⟩ = some u351000 := (blk_cell KP.out 0).trans rfl
               have hk1 : wr.cell? ⟨gp, 1, none⟩ = some u351001 := (blk_cell KP.out 1).trans rfl
               obtain ⟨Ai, ci, ei⟩ := Kd.R_slice HO_351000.out
               subst ei
               go_wp2
               clear hk0 hk1
               go_loopg [83] x351000_22.length (fun g2 v83 wr => ∃ (j : Nat) (Z : List Int), v83 = .int .i64 (j : Nat) ∧ j ≤ x351000_22.length ∧ x351000_22.length - j ≤ g2 ∧ Aside0 (Z = mixL x8_43 x7_22 x351000_22 j) ∧ Aside0 (Kd.R (Kd.int .i64) 3 wr w.heap.size (fun k_ => some k_ ≠ (u351001 : Value).ownBlock) (.slice Ai x351000_22.length ci) Z) ∧ Aside0 (Kd.R (Kd.int .i64) 3 wr w.heap.size (fun k_ => some k_ ≠ ((.slice Ai x351000_22.length ci) : Value).ownBlock) u351001 x351001_43) ∧ Aside0 (wr.heap[gb342]? = some (.cells #[(.slice A0_0 l0_0.length c0_0), (.slice A0_1 l0_1.length c0_1), .int .i64 a0_2] 27 (0, 0))) ∧ Aside0 (wr.heap[gb343]? = some (.cells #[(.slice none 0 0), (.slice none 0 0), .int .i64 0] 27 (0, 0))) ∧ Aside0 (wr.heap[gb350]? = some (.cells #[(.slice Ai x351000_22.length ci), u351001, .int .i64 ccv] 27 (0, 0))) ∧ Aside0 (Below w.heap.size w wr) ∧ Aside0 (wr.heap[gp]? = some (.cells #[(.slice Ai x351000_22.length ci), u351001] 22 (0, 0))))
               case atStart => exact ⟨0, _, rfl, Nat.zero_le _, Nat.le_refl _, ⟨(mixL_0 _ _ _).symm⟩, HO_351000, HO_351001, BK342, BK343, BK350, HB, KP⟩
               case round =>
                clear HO_351000 HO_351001 BK342 BK343 BK350 HB KP
                obtain ⟨j, Z, rfl, hj, hg2, HZ, HO_351000, HO_351001, BK342, BK343, BK350, HB, KP⟩ := hrel
                by_cases hlt : j < x351000_22.length
                ·have hltz : ((j : Nat) : Int) < (x351000_22.length : Int) := by omega
                 have hzl : Z.length = x351000_22.length := by rw [HZ.out]; exact mixL_len _ _ _ _
                 have p5 : 0 ≤ ((j : Nat) : Int) := by omega
                 have hv : rd Z ((j : Nat) : Int) = rd x351000_22 ((j : Nat) : Int) := by rw [HZ.out]; exact mixL_rd _ _ _ _ hlt
                 obtain ⟨go5, co5, eo5, gb5, gl5, cl5, HG5⟩ := Kd.R_form HO_351000.out (by omega)
                 injection eo5 with ea_ en_ ec_
                 subst ea_
                 subst ec_
                 clear en_
                 obtain ⟨hx5_0, hf5_0⟩ := Kd.R_celln 0 HO_351000.out ((j : Nat) : Int) p5 hltz
                 have hx1 : wr.cell? ⟨go5, j, none⟩ = some (.int .i64 (rd x351000_22 ((j : Nat) : Int))) := by rw [← hv]; exact hx5_0
                 have hf1 : wr.frozen? ⟨go5, j, none⟩ = false := hf5_0
                 clear hx5_0 hf5_0
                 have p1 : (0 ≤ ((j : Nat) : Int)) = True := eq_true p5
                 have p2 : (((j : Nat) : Int) < (x351000_22.length : Int)) = True := eq_true hltz
                 have GB5 := am gb5
                 have HJL := am hlt
                 have HG2 := am hg2
                 clear gb5 gl5 HG5 p5 hlt hltz hg2 hj hzl hv
                 by_cases ey : rd x351000_22 ((j : Nat) : Int) = x8_43
                 ·have b1 : (rd x351000_22 ((j : Nat) : Int) == x8_43) = true := beq_iff_eq.2 ey
                  have HEY := am ey
                  clear ey
                  have HP7 := Kd.R_putg HO_351000.out ((j : Nat) : Int) x7_22
                  rw [Int.toNat_natCast] at HP7
                  have HP7 := am HP7
                  iterate 68 (first | go_values | go_skip | go_guarded | go_step | go_upon)
                  generalize hw : wr.setCell ⟨go5, j, none⟩ (.int .i64 x7_22) = w8
                  have n0_ := am (show Kd.R (Kd.int .i64) 3 w8 w.heap.size (fun k_ => some k_ ≠ (u351001 : Value).ownBlock) (.slice (some ⟨go5, 0, none⟩) x351000_22.length ci) (Z.set j x7_22) from by rw [← hw]; exact HP7.out.1)
                  have n1_ := am (show Kd.R (Kd.int .i64) 3 w8 w.heap.size (fun k_ => some k_ ≠ (.slice (some ⟨go5, 0, none⟩) x351000_22.length ci : Value).ownBlock) u351001 x351001_43 from by rw [← hw]; exact Kd.R_far HO_351001.out (fun k hk e_ => hk (by rw [e_]; rfl)) _)
                  have n2_ := am (blk_far (p := ⟨go5, j, none⟩) BK342.out (((Kd.R_types HO_351000.out BK342.out (by decide)).1 go5 rfl).2.symm) (.int .i64 x7_22))
                  rw [hw] at n2_
                  have n3_ := am (blk_far (p := ⟨go5, j, none⟩) BK343.out (((Kd.R_types HO_351000.out BK343.out (by decide)).1 go5 rfl).2.symm) (.int .i64 x7_22))
                  rw [hw] at n3_
                  have n4_ := am (blk_far (p := ⟨go5, j, none⟩) BK350.out (((Kd.R_types HO_351000.out BK350.out (by decide)).1 go5 rfl).2.symm) (.int .i64 x7_22))
                  rw [hw] at n4_
                  have n6_ := am (blk_far (p := ⟨go5, j, none⟩) KP.out (((Kd.R_types HO_351000.out KP.out (by decide)).1 go5 rfl).2.symm) (.int .i64 x7_22))
                  rw [hw] at n6_
                  have n5_ := am (show Below w.heap.size w w8 from by rw [← hw]; exact bS HB.out GB5.out)
                  clear HO_351000 HO_351001 BK342 BK343 BK350 HB KP hw HP7 hx1 hf1
                  have HO_351000 := n0_
                  have HO_351001 := n1_
                  have BK342 := n2_
                  have BK343 := n3_
                  have BK350 := n4_
                  have HB := n5_
                  have KP := n6_
                  clear n0_ n1_ n2_ n3_ n4_ n5_ n6_
                  repeat (first | go_values | go_skip | go_guarded | go_step | go_upon)
                  go_roundg (x351000_22.length - (j + 1))
                  case measure => have := HG2.out; have := HJL.out; omega
                  case rel => exact ⟨j + 1, _, (by exact congrArg (Value.int .i64) (show wrap64 (((j : Nat) : Int) + 1) = ((j + 1 : Nat) : Int) by have := HJL.out; have := HNS0.out; unfold wrap64; omega)), by have := HJL.out; omega, Nat.le_refl _, ⟨by rw [HZ.out]; exact mixL_set _ _ _ _ HJL.out HEY.out⟩, HO_351000, HO_351001, BK342, BK343, BK350, HB, KP⟩
                 ·have b1 : (rd x351000_22 ((j : Nat) : Int) == x8_43) = false := beq_eq_false_iff_ne.2 ey
                  have HEY := am ey
                  clear ey
                  repeat (first | go_values | go_skip | go_guarded | go_step | go_upon)
                  go_roundg (x351000_22.length - (j + 1))
                  case measure => have := HG2.out; have := HJL.out; omega
                  case rel => exact ⟨j + 1, _, (by exact congrArg (Value.int .i64) (show wrap64 (((j : Nat) : Int) + 1) = ((j + 1 : Nat) : Int) by have := HJL.out; have := HNS0.out; unfold wrap64; omega)), by have := HJL.out; omega, Nat.le_refl _, ⟨by rw [HZ.out]; exact mixL_keep _ _ _ _ HJL.out HEY.out⟩, HO_351000, HO_351001, BK342, BK343, BK350, HB, KP⟩
                ·obtain rfl : j = x351000_22.length := by omega
                 have ez_ : Z = swpL x8_43 x7_22 x351000_22 := by rw [HZ.out]; exact mixL_all _ _ _
                 subst ez_
                 clear HZ hlt hg2 hj
                 have p2 : ¬ ((x351000_22.length : Nat) : Int) < (x351000_22.length : Int) := by omega
                 repeat (first | go_values | go_skip | go_guarded | go_step | go_upon)
                 go_roundg (2 - (0 + 1))
                 case measure => have := HGG.out; omega
                 case rel => exact ⟨0 + 1, _, _, rfl, by omega, Nat.le_refl _, ⟨rfl⟩, ⟨rfl⟩, HO_351000, HO_351001, BK342, BK343, BK350, HB, KP⟩
              ·have HGG := am hgg
               clear hgg hi
               have e1_ : X1 = swpL x8_43 x7_22 x351000_22 := HX1.out
               have e2_ : x351001_43 = Y1 := HY1.out.symm
               subst e1_
               subst e2_
               clear HX1 HY1
               have hk0 : wr.cell? ⟨gp, 0, none⟩ = some u351000 := (blk_cell KP.out 0).trans rfl
               have hk1 : wr.cell? ⟨gp, 1, none⟩ = some u351001 := (blk_cell KP.out 1).trans rfl
               obtain ⟨Ai, ci, ei⟩ := Kd.R_slice HO_351001.out
               subst ei
               go_wp2
               clear hk0 hk1
               go_loopg [83] x351001_43.length (fun g2 v83 wr => ∃ (j : Nat) (Z : List Int), v83 = .int .i64 (j : Nat) ∧ j ≤ x351001_43.length ∧ x351001_43.length - j ≤ g2 ∧ Aside0 (Z = mixL x8_43 x7_22 x351001_43 j) ∧ Aside0 (Kd.R (Kd.int .i64) 3 wr w.heap.size (fun k_ => some k_ ≠ ((.slice Ai x351001_43.length ci) : Value).ownBlock) u351000 (swpL x8_43 x7_22 x351000_22)) ∧ Aside0 (Kd.R (Kd.int .i64) 3 wr w.heap.size (fun k_ => some k_ ≠ (u351000 : Value).ownBlock) (.slice Ai x351001_43.length ci) Z) ∧ Aside0 (wr.heap[gb342]? = some (.cells #[(.slice A0_0 l0_0.length c0_0), (.slice A0_1 l0_1.length c0_1), .int .i64 a0_2] 27 (0, 0))) ∧ Aside0 (wr.heap[gb343]? = some (.cells #[(.slice none 0 0), (.slice none 0 0), .int .i64 0] 27 (0, 0))) ∧ Aside0 (wr.heap[gb350]? = some (.cells #[u351000, (.slice Ai x351001_43.length ci), .int .i64 ccv] 27 (0, 0))) ∧ Aside0 (Below w.heap.size w wr) ∧ Aside0 (wr.heap[gp]? = some (.cells #[u351000, (.slice Ai x351001_43.length ci)] 22 (0, 0))))
               case atStart => exact ⟨0, _, rfl, Nat.zero_le _, Nat.le_refl _, ⟨(mixL_0 _ _ _).symm⟩, HO_351000, HO_351001, BK342, BK343, BK350, HB, KP⟩
               case round =>
                clear HO_351000 HO_351001 BK342 BK343 BK350 HB KP
                obtain ⟨j, Z, rfl, hj, hg2, HZ, HO_351000, HO_351001, BK342, BK343, BK350, HB, KP⟩ := hrel
                by_cases hlt : j < x351001_43.length
                ·have hltz : ((j : Nat) : Int) < (x351001_43.length : Int) := by omega
                 have hzl : Z.length = x351001_43.length := by rw [HZ.out]; exact mixL_len _ _ _ _
                 have p5 : 0 ≤ ((j : Nat) : Int) := by omega
                 have hv : rd Z ((j : Nat) : Int) = rd x351001_43 ((j : Nat) : Int) := by rw [HZ.out]; exact mixL_rd _ _ _ _ hlt
                 obtain ⟨go5, co5, eo5, gb5, gl5, cl5, HG5⟩ := Kd.R_form HO_351001.out (by omega)
                 injection eo5 with ea_ en_ ec_
                 subst ea_
                 subst ec_
                 clear en_
                 obtain ⟨hx5_0, hf5_0⟩ := Kd.R_celln 0 HO_351001.out ((j : Nat) : Int) p5 hltz
                 have hx1 : wr.cell? ⟨go5, j, none⟩ = some (.int .i64 (rd x351001_43 ((j : Nat) : Int))) := by rw [← hv]; exact hx5_0
                 have hf1 : wr.frozen? ⟨go5, j, none⟩ = false := hf5_0
                 clear hx5_0 hf5_0
                 have p1 : (0 ≤ ((j : Nat) : Int)) = True := eq_true p5
                 have p2 : (((j : Nat) : Int) < (x351001_43.length : Int)) = True := eq_true hltz
                 have GB5 := am gb5
                 have HJL := am hlt
                 have HG2 := am hg2
                 clear gb5 gl5 HG5 p5 hlt hltz hg2 hj hzl hv
                 by_cases ey : rd x351001_43 ((j : Nat) : Int) = x8_43
                 ·have b1 : (rd x351001_43 ((j : Nat) : Int) == x8_43) = true := beq_iff_eq.2 ey
                  have HEY := am ey
                  clear ey
                  have HP7 := Kd.R_putg HO_351001.out ((j : Nat) : Int) x7_22
                  rw [Int.toNat_natCast] at HP7
                  have HP7 := am HP7
                  iterate 68 (first | go_values | go_skip | go_guarded | go_step | go_upon)
                  generalize hw : wr.setCell ⟨go5, j, none⟩ (.int .i64 x7_22) = w8
                  have n0_ := am (show Kd.R (Kd.int .i64) 3 w8 w.heap.size (fun k_ => some k_ ≠ (u351000 : Value).ownBlock) (.slice (some ⟨go5, 0, none⟩) x351001_43.length ci) (Z.set j x7_22) from by rw [← hw]; exact HP7.out.1)
                  have n1_ := am (show Kd.R (Kd.int .i64) 3 w8 w.heap.size (fun k_ => some k_ ≠ (.slice (some ⟨go5, 0, none⟩) x351001_43.length ci : Value).ownBlock) u351000 (swpL x8_43 x7_22 x351000_22) from by rw [← hw]; exact Kd.R_far HO_351000.out (fun k hk e_ => hk (by rw [e_]; rfl)) _)
                  have n2_ := am (blk_far (p := ⟨go5, j, none⟩) BK342.out (((Kd.R_types HO_351001.out BK342.out (by decide)).1 go5 rfl).2.symm) (.int .i64 x7_22))
                  rw [hw] at n2_
                  have n3_ := am (blk_far (p := ⟨go5, j, none⟩) BK343.out (((Kd.R_types HO_351001.out BK343.out (by decide)).1 go5 rfl).2.symm) (.int .i64 x7_22))
                  rw [hw] at n3_
                  have n4_ := am (blk_far (p := ⟨go5, j, none⟩) BK350.out (((Kd.R_types HO_351001.out BK350.out (by decide)).1 go5 rfl).2.symm) (.int .i64 x7_22))
                  rw [hw] at n4_
                  have n6_ := am (blk_far (p := ⟨go5, j, none⟩) KP.out (((Kd.R_types HO_351001.out KP.out (by decide)).1 go5 rfl).2.symm) (.int .i64 x7_22))
                  rw [hw] at n6_
                  have n5_ := am (show Below w.heap.size w w8 from by rw [← hw]; exact bS HB.out GB5.out)
                  clear HO_351000 HO_351001 BK342 BK343 BK350 HB KP hw HP7 hx1 hf1
                  have HO_351000 := n1_
                  have HO_351001 := n0_
                  have BK342 := n2_
                  have BK343 := n3_
                  have BK350 := n4_
                  have HB := n5_
                  have KP := n6_
                  clear n0_ n1_ n2_ n3_ n4_ n5_ n6_
                  repeat (first | go_values | go_skip | go_guarded | go_step | go_upon)
                  go_roundg (x351001_43.length - (j + 1))
                  case measure => have := HG2.out; have := HJL.out; omega
                  case rel => exact ⟨j + 1, _, (by exact congrArg (Value.int .i64) (show wrap64 (((j : Nat) : Int) + 1) = ((j + 1 : Nat) : Int) by have := HJL.out; have := HNS1.out; unfold wrap64; omega)), by have := HJL.out; omega, Nat.le_refl _, ⟨by rw [HZ.out]; exact mixL_set _ _ _ _ HJL.out HEY.out⟩, HO_351000, HO_351001, BK342, BK343, BK350, HB, KP⟩
                 ·have b1 : (rd x351001_43 ((j : Nat) : Int) == x8_43) = false := beq_eq_false_iff_ne.2 ey
                  have HEY := am ey
                  clear ey
                  repeat (first | go_values | go_skip | go_guarded | go_step | go_upon)
                  go_roundg (x351001_43.length - (j + 1))
                  case measure => have := HG2.out; have := HJL.out; omega
                  case rel => exact ⟨j + 1, _, (by exact congrArg (Value.int .i64) (show wrap64 (((j : Nat) : Int) + 1) = ((j + 1 : Nat) : Int) by have := HJL.out; have := HNS1.out; unfold wrap64; omega)), by have := HJL.out; omega, Nat.le_refl _, ⟨by rw [HZ.out]; exact mixL_keep _ _ _ _ HJL.out HEY.out⟩, HO_351000, HO_351001, BK342, BK343, BK350, HB, KP⟩
                ·obtain rfl : j = x351001_43.length := by omega
                 have ez_ : Z = swpL x8_43 x7_22 x351001_43 := by rw [HZ.out]; exact mixL_all _ _ _
                 subst ez_
                 clear HZ hlt hg2 hj
                 have p2 : ¬ ((x351001_43.length : Nat) : Int) < (x351001_43.length : Int) := by omega
                 repeat (first | go_values | go_skip | go_guarded | go_step | go_upon)
                 go_roundg (2 - (1 + 1))
                 case measure => have := HGG.out; omega
                 case rel => exact ⟨1 + 1, _, _, rfl, by omega, Nat.le_refl _, ⟨rfl⟩, ⟨rfl⟩, HO_351000, HO_351001, BK342, BK343, BK350, HB, KP⟩
              ·clear hgg hi
               have e1_ : X1 = swpL x8_43 x7_22 x351000_22 := HX1.out
               have e2_ : Y1 = swpL x8_43 x7_22 x351001_43 := HY1.out
               subst e1_
               subst e2_
               clear HX1 HY1 KP
               repeat (first | go_values | go_skip | go_guarded | go_step | go_upon)
               go_meet
               case rel => exact ⟨_, _, _, _, u351000, u351001, HD, ⟨Nat.le_refl _⟩, HO_351000, HO_351001, BK342, BK343, BK350, HB⟩
        case rest =>
         clear HC53
         try clear p2
         try clear p6
         try clear p64
         try clear hcz77_0
         try clear hcz77_1
         try clear hcz77_2
         try clear hcz83_0
         try clear hcz83_1
         try clear hcz83_2
         try clear hcz88_0
         try clear hcz88_1
         try clear hcz88_2
         try clear hcz94_0
         try clear hcz94_1
         try clear hcz94_2
         try clear hcz98_0
         try clear hcz98_1
         try clear hcz98_2
         try clear hfz77_0
         try clear hfz77_1
         try clear hfz77_2
         try clear hfz83_0
         try clear hfz83_1
         try clear hfz83_2
         try clear hfz88_0
         try clear hfz88_1
         try clear hfz88_2
         try clear hfz94_0
         try clear hfz94_1
         try clear hfz94_2
         try clear hfz98_0
         try clear hfz98_1
         try clear hfz98_2
         obtain ⟨kq, x351000_52, x351001_52, x351002_52, u351000, u351001, HA, HJ52, HO_351000, HO_351001, BK342, BK343, BK350, HB⟩ := hcut
         cases kq with
         | zero => exact absurd HA.out (by simp [impl_State_stepped.j3])
         | succ kj52 =>
          have H := HA.out
          clear HA
          simp only [impl_State_stepped.j3] at H
          have HC99 := am H
          clear H
          go_upto_region 28 with (fail)
          go_cut [139] (fun v139 wc => ∃ (kq : Nat) (x139_98 : Bool), v139 = .bool x139_98 ∧ Aside0 (impl_State_stepped.j4 kq x139_98 x351000_52 x351001_52 x351002_52 = some (r1, r2, r3, r4)) ∧ Aside0 (kq ≤ kj52) ∧ Aside0 (Kd.R (Kd.int .i64) 3 wc w.heap.size (fun k_ => some k_ ≠ (u351001 : Value).ownBlock) u351000 x351000_52) ∧ Aside0 (Kd.R (Kd.int .i64) 3 wc w.heap.size (fun k_ => some k_ ≠ (u351000 : Value).ownBlock) u351001 x351001_52) ∧ Aside0 (wc.heap[gb342]? = some (.cells #[(.slice A0_0 l0_0.length c0_0), (.slice A0_1 l0_1.length c0_1), .int .i64 a0_2] 27 (0, 0))) ∧ Aside0 (wc.heap[gb343]? = some (.cells #[(.slice none 0 0), (.slice none 0 0), .int .i64 0] 27 (0, 0))) ∧ Aside0 (wc.heap[gb350]? = some (.cells #[u351000, u351001, .int .i64 x351002_52] 27 (0, 0))) ∧ Aside0 (Below w.heap.size w wc))
          case first =>
           have H := HC99.out
           clear HC99
           by_cases c100 : (x351000_52.length : Int) > 6
           ·rw [if_pos c100] at H
            have c100b0 : decide (6 < (x351000_52.length : Int)) = true := decide_eq_true c100
            have c100b1 : decide (6 < x351000_52.length) = true := decide_eq_true (by omega)
            clear c100
            (first | rw [c100b0] | (simp only [i64_w, i32_w]; rw [c100b0]) | skip)
            have H' := am H
            clear H
            have hnb101 := NB350_342.out
            have hnc101 := NB342_350.out
            have hnb102 := NB350_343.out
            have hnc102 := NB343_350.out
            have hcz103_0 : wc.cell? ⟨gb350, 0, none⟩ = some (u351000) := (blk_cell BK350.out 0).trans rfl
            have hcz103_1 : wc.cell? ⟨gb350, 1, none⟩ = some (u351001) := (blk_cell BK350.out 1).trans rfl
            have hcz103_2 : wc.cell? ⟨gb350, 2, none⟩ = some (.int .i64 x351002_52) := (blk_cell BK350.out 2).trans rfl
            have hfz103_0 := blk_frozen BK350.out 0
            have hfz103_1 := blk_frozen BK350.out 1
            have hfz103_2 := blk_frozen BK350.out 2
            obtain ⟨Ao104, co104, eo104⟩ := Kd.R_slice HO_351000.out
            subst eo104
            go_wp2
            go_meet
            case rel => exact ⟨_, (true), (by first | rfl | (simp; done) | (simp [*]; done)), H', ⟨by have := HJ2.out; have := HJ22.out; have := HJ43.out; have := HJ52.out; first | omega | exact Nat.le_refl _⟩, ⟨by (with_reducible repeat (first | apply rA | apply rN | apply rD)); exact HO_351000.out⟩, ⟨by (with_reducible repeat (first | apply rA | apply rN | apply rD)); exact HO_351001.out⟩, ⟨by (with_reducible repeat (first | apply kB | apply kC | apply kE)); exact BK342.out⟩, ⟨by (with_reducible repeat (first | apply kB | apply kC | apply kE)); exact BK343.out⟩, ⟨by (with_reducible repeat (first | apply kB | apply kC | apply kE)); exact BK350.out⟩, ⟨by repeat (with_reducible first | exact HB.out | apply bA | apply bN | apply bD | refine bS ?_ GE342.out | refine bS ?_ GE343.out | refine bS ?_ GE350.out)⟩⟩
           ·rw [if_neg c100] at H
            have c100b0 : decide (6 < (x351000_52.length : Int)) = false := decide_eq_false c100
            have c100b1 : decide (6 < x351000_52.length) = false := decide_eq_false (by omega)
            clear c100
            (first | rw [c100b0] | (simp only [i64_w, i32_w]; rw [c100b0]) | skip)
            by_cases c105 : (x351001_52.length : Int) > 6
            ·rw [if_pos c105] at H
             have c105b0 : decide (6 < (x351001_52.length : Int)) = true := decide_eq_true c105
             have c105b1 : decide (6 < x351001_52.length) = true := decide_eq_true (by omega)
             clear c105
             have H' := am H
             clear H
             have hnb106 := NB350_342.out
             have hnc106 := NB342_350.out
             have hnb107 := NB350_343.out
             have hnc107 := NB343_350.out
             have hcz108_0 : wc.cell? ⟨gb350, 0, none⟩ = some (u351000) := (blk_cell BK350.out 0).trans rfl
             have hcz108_1 : wc.cell? ⟨gb350, 1, none⟩ = some (u351001) := (blk_cell BK350.out 1).trans rfl
             have hcz108_2 : wc.cell? ⟨gb350, 2, none⟩ = some (.int .i64 x351002_52) := (blk_cell BK350.out 2).trans rfl
             have hfz108_0 := blk_frozen BK350.out 0
             have hfz108_1 := blk_frozen BK350.out 1
             have hfz108_2 := blk_frozen BK350.out 2
             obtain ⟨Ao109, co109, eo109⟩ := Kd.R_slice HO_351000.out
             subst eo109
             obtain ⟨Ao110, co110, eo110⟩ := Kd.R_slice HO_351001.out
             subst eo110
             go_wp2
             go_meet
             case rel => exact ⟨_, (true), (by first | rfl | (simp; done) | (simp [*]; done)), H', ⟨by have := HJ2.out; have := HJ22.out; have := HJ43.out; have := HJ52.out; first | omega | exact Nat.le_refl _⟩, ⟨by (with_reducible repeat (first | apply rA | apply rN | apply rD)); exact HO_351000.out⟩, ⟨by (with_reducible repeat (first | apply rA | apply rN | apply rD)); exact HO_351001.out⟩, ⟨by (with_reducible repeat (first | apply kB | apply kC | apply kE)); exact BK342.out⟩, ⟨by (with_reducible repeat (first | apply kB | apply kC | apply kE)); exact BK343.out⟩, ⟨by (with_reducible repeat (first | apply kB | apply kC | apply kE)); exact BK350.out⟩, ⟨by repeat (with_reducible first | exact HB.out | apply bA | apply bN | apply bD | refine bS ?_ GE342.out | refine bS ?_ GE343.out | refine bS ?_ GE350.out)⟩⟩
            ·rw [if_neg c105] at H
             have c105b0 : decide (6 < (x351001_52.length : Int)) = false := decide_eq_false c105
             have c105b1 : decide (6 < x351001_52.length) = false := decide_eq_false (by omega)
             clear c105
             have H' := am H
             clear H
             have hnb111 := NB350_342.out
             have hnc111 := NB342_350.out
             have hnb112 := NB350_343.out
             have hnc112 := NB343_350.out
             have hcz113_0 : wc.cell? ⟨gb350, 0, none⟩ = some (u351000) := (blk_cell BK350.out 0).trans rfl
             have hcz113_1 : wc.cell? ⟨gb350, 1, none⟩ = some (u351001) := (blk_cell BK350.out 1).trans rfl
             have hcz113_2 : wc.cell? ⟨gb350, 2, none⟩ = some (.int .i64 x351002_52) := (blk_cell BK350.out 2).trans rfl
             have hfz113_0 := blk_frozen BK350.out 0
             have hfz113_1 := blk_frozen BK350.out 1
             have hfz113_2 := blk_frozen BK350.out 2
             obtain ⟨Ao114, co114, eo114⟩ := Kd.R_slice HO_351000.out
             subst eo114
             obtain ⟨Ao115, co115, eo115⟩ := Kd.R_slice HO_351001.out
             subst eo115
             go_wp2
             go_meet
             case rel => exact ⟨_, (decide (x351002_52 > 6)), (by first | rfl | (simp; done) | (simp [*]; done)), H', ⟨by have := HJ2.out; have := HJ22.out; have := HJ43.out; have := HJ52.out; first | omega | exact Nat.le_refl _⟩, ⟨by (with_reducible repeat (first | apply rA | apply rN | apply rD)); exact HO_351000.out⟩, ⟨by (with_reducible repeat (first | apply rA | apply rN | apply rD)); exact HO_351001.out⟩, ⟨by (with_reducible repeat (first | apply kB | apply kC | apply kE)); exact BK342.out⟩, ⟨by (with_reducible repeat (first | apply kB | apply kC | apply kE)); exact BK343.out⟩, ⟨by (with_reducible repeat (first | apply kB | apply kC | apply kE)); exact BK350.out⟩, ⟨by repeat (with_reducible first | exact HB.out | apply bA | apply bN | apply bD | refine bS ?_ GE342.out | refine bS ?_ GE343.out | refine bS ?_ GE350.out)⟩⟩
          case rest =>
           clear HC99
           try clear p2
           try clear p6
           try clear p64
           try clear hcz103_0
           try clear hcz103_1
           try clear hcz103_2
           try clear hcz108_0
           try clear hcz108_1
           try clear hcz108_2
           try clear hcz113_0
           try clear hcz113_1
           try clear hcz113_2
           try clear hcz77_0
           try clear hcz77_1
           try clear hcz77_2
           try clear hcz83_0
           try clear hcz83_1
           try clear hcz83_2
           try clear hcz88_0
           try clear hcz88_1
           try clear hcz88_2
           try clear hcz94_0
           try clear hcz94_1
           try clear hcz94_2
           try clear hcz98_0
           try clear hcz98_1
           try clear hcz98_2
           try clear hfz103_0
           try clear hfz103_1
           try clear hfz103_2
           try clear hfz108_0
           try clear hfz108_1
           try clear hfz108_2
           try clear hfz113_0
           try clear hfz113_1
           try clear hfz113_2
           try clear hfz77_0
           try clear hfz77_1
           try clear hfz77_2
           try clear hfz83_0
           try clear hfz83_1
           try clear hfz83_2
           try clear hfz88_0
           try clear hfz88_1
           try clear hfz88_2
           try clear hfz94_0
           try clear hfz94_1
           try clear hfz94_2
           try clear hfz98_0
           try clear hfz98_1
           try clear hfz98_2
           try clear p2
           try clear p6
           try clear p64
           obtain ⟨kq, x139_98, rfl, HA, HJ98, HO_351000, HO_351001, BK342, BK343, BK350, HB⟩ := hcut
           cases kq with
           | zero => exact absurd HA.out (by simp [impl_State_stepped.j4])
           | succ kj98 =>
            have H := HA.out
            clear HA
            simp only [impl_State_stepped.j4] at H
            by_cases c116 : x139_98 = true
            ·subst c116
             have H1 : (some (([] : List Int), ([] : List Int), 0, false)) = some (r1, r2, r3, r4) := by rw [if_pos rfl] at H; exact H
             clear H
             have H := H1
             clear H1
             simp only [Option.some.injEq, Prod.mk.injEq] at H
             obtain ⟨rfl, rfl, rfl, rfl⟩ := H
             have hnb117 := NB343_342.out
             have hnc117 := NB342_343.out
             have hnb118 := NB343_350.out
             have hnc118 := NB350_343.out
             have hcz119_0 : wc.cell? ⟨gb343, 0, none⟩ = some (.slice none 0 0) := (blk_cell BK343.out 0).trans rfl
             have hcz119_1 : wc.cell? ⟨gb343, 1, none⟩ = some (.slice none 0 0) := (blk_cell BK343.out 1).trans rfl
             have hcz119_2 : wc.cell? ⟨gb343, 2, none⟩ = some (.int .i64 0) := (blk_cell BK343.out 2).trans rfl
             have hfz119_0 := blk_frozen BK343.out 0
             have hfz119_1 := blk_frozen BK343.out 1
             have hfz119_2 := blk_frozen BK343.out 2
             go_wp2
             refine bodyPost_ret (results_ct rfl _ _ gb343 27 #[.slice none 0 0, .slice none 0 0, .int .i64 0] (0, 0) _ rfl (by (with_reducible repeat (first | apply kB | apply kC | apply kE)); refine blk_put (cs := #[.slice none 0 0, .slice none 0 0, .int .i64 0]) ?_ 2 _ rfl; (with_reducible repeat (first | apply kB | apply kC | apply kE)); refine blk_put (cs := #[.slice none 0 0, .slice none 0 0, .int .i64 0]) ?_ 1 _ rfl; (with_reducible repeat (first | apply kB | apply kC | apply kE)); refine blk_put (cs := #[.slice none 0 0, .slice none 0 0, .int .i64 0]) ?_ 0 _ rfl; (with_reducible repeat (first | apply kB | apply kC | apply kE)); exact BK343.out) Try.underlying27 rfl (by kernel_rfl)) rfl ?_
             exact ⟨_, _, by first | rfl | (simp [*, errW_none, errW_some] <;> rfl), by first | exact Kd.R_nil _ _ _ _ _ | exact Kd.N_nil _ _ _ _ _ | exact Kd.V_nil _ _ _ _ _ | exact Kd.Q_nil _ _ _ _ _ | exact Kd.S_nil _ _ _ _ _, by first | exact Kd.R_nil _ _ _ _ _ | exact Kd.N_nil _ _ _ _ _ | exact Kd.V_nil _ _ _ _ _ | exact Kd.Q_nil _ _ _ _ _ | exact Kd.S_nil _ _ _ _ _, by repeat (with_reducible first | exact HB.out | apply bA | apply bN | apply bD | refine bS ?_ GE342.out | refine bS ?_ GE343.out | refine bS ?_ GE350.out)⟩
            ·replace c116 := Bool.eq_false_iff.mpr c116
             subst c116
             have H1 : ((impl_renumbered.f x351000_52 x351001_52 x351002_52).bind fun bt383 => (some (bt383.1, bt383.2.1, bt383.2.2, true))) = some (r1, r2, r3, r4) := by rw [if_neg (show ¬ (false = true) by decide)] at H; exact H
             clear H
             have H := H1
             clear H1
             replace H := Option.bind_eq_some_iff.mp H
             obtain ⟨⟨t383, t386, t389⟩, A1200, H⟩ := H
             replace H : (some (t383, t386, t389, true)) = some (r1, r2, r3, r4) := H
             have A120 := am A1200
             clear A1200
             simp only [Option.some.injEq, Prod.mk.injEq] at H
             obtain ⟨rfl, rfl, rfl, rfl⟩ := H
             have hnb121 := NB350_342.out
             have hnc121 := NB342_350.out
             have hnb122 := NB350_343.out
             have hnc122 := NB343_350.out
             have hcz123_0 : wc.cell? ⟨gb350, 0, none⟩ = some (u351000) := (blk_cell BK350.out 0).trans rfl
             have hcz123_1 : wc.cell? ⟨gb350, 1, none⟩ = some (u351001) := (blk_cell BK350.out 1).trans rfl
             have hcz123_2 : wc.cell? ⟨gb350, 2, none⟩ = some (.int .i64 x351002_52) := (blk_cell BK350.out 2).trans rfl
             have hfz123_0 := blk_frozen BK350.out 0
             have hfz123_1 := blk_frozen BK350.out 1
             have hfz123_2 := blk_frozen BK350.out 2
             obtain ⟨Ao124, co124, eo124⟩ := Kd.R_slice HO_351000.out
             subst eo124
             obtain ⟨Ao125, co125, eo125⟩ := Kd.R_slice HO_351001.out
             subst eo125
             go_wp2_with (first | ((with_reducible refine gate_callee (f := 43) rfl ?_); refine goesL_ (some 142) rfl rfl Try.func43 (by kernel_rfl) rfl #[.agg #[.slice Ao124 x351000_52.length co124, .slice Ao125 x351001_52.length co125, .int .i64 x351002_52]] rfl (by (try simp only [mT, mC, mZ]); first | done | rfl) ?_; (with_reducible refine (impl_renumbered.calls _ _ x351000_52 _ _ x351001_52 x351002_52 t383 t386 t389 _ ?side1 ?side2 ?side3 ?side4 A120.out).mono ?_); (case side1 => repeat (first | exact (Kd.R_reads' HO_351000.out).2.2 | (with_reducible first | apply cA | apply cN | apply cD))); (case side2 => exact (Kd.R_reads' HO_351000.out).2.1); (case side3 => repeat (first | exact (Kd.R_reads' HO_351001.out).2.2 | (with_reducible first | apply cA | apply cN | apply cD))); (case side4 => exact (Kd.R_reads' HO_351001.out).2.1); rintro e w126 ⟨v384, v387, rfl, ho0, ho1, hb⟩; refine ⟨_, rfl, ?_⟩; have HO385 := am (Kd.R_lower (Kd.R_new' (Kd.R_new' ho0 (Kd.R_lt (by (with_reducible repeat (first | apply rA | apply rN | apply rD)); exact HO_351000.out))) (Kd.R_lt (by (with_reducible repeat (first | apply rA | apply rN | apply rD)); exact HO_351001.out))) (below_size (by repeat (with_reducible first | exact HB.out | apply bA | apply bN | apply bD | refine bS ?_ GE342.out | refine bS ?_ GE343.out | refine bS ?_ GE350.out)))); have HO388 := am (Kd.R_lower (Kd.R_new' (Kd.R_new' ho1 (Kd.R_lt (by (with_reducible repeat (first | apply rA | apply rN | apply rD)); exact HO_351000.out))) (Kd.R_lt (by (with_reducible repeat (first | apply rA | apply rN | apply rD)); exact HO_351001.out))) (below_size (by repeat (with_reducible first | exact HB.out | apply bA | apply bN | apply bD | refine bS ?_ GE342.out | refine bS ?_ GE343.out | refine bS ?_ GE350.out)))); replace HO_351000 := am (Kd.R_mono (Kd.R_told (Kd.R_told (Kd.R_old (by (with_reducible repeat (first | apply rA | apply rN | apply rD)); exact HO_351000.out) hb) (Kd.R_base ho0)) (Kd.R_base ho1)) (fun _ h_ => h_.1)); replace HO_351001 := am (Kd.R_mono (Kd.R_told (Kd.R_told (Kd.R_old (by (with_reducible repeat (first | apply rA | apply rN | apply rD)); exact HO_351001.out) hb) (Kd.R_base ho0)) (Kd.R_base ho1)) (fun _ h_ => h_.1)); replace BK342 := am (blk_below (g := gb342) (o := .cells #[.slice A0_0 l0_0.length c0_0, .slice A0_1 l0_1.length c0_1, .int .i64 a0_2] 27 (0, 0)) (by (with_reducible repeat (first | apply kB | apply kC | apply kE)); exact BK342.out) hb); replace BK343 := am (blk_below (g := gb343) (o := .cells #[.slice none 0 0, .slice none 0 0, .int .i64 0] 27 (0, 0)) (by (with_reducible repeat (first | apply kB | apply kC | apply kE)); exact BK343.out) hb); replace BK350 := am (blk_below (g := gb350) (o := .cells #[.slice Ao124 x351000_52.length co124, .slice Ao125 x351001_52.length co125, .int .i64 x351002_52] 27 (0, 0)) (by (with_reducible repeat (first | apply kB | apply kC | apply kE)); exact BK350.out) hb); replace HB := am (below_step (by repeat (with_reducible first | exact HB.out | apply bA | apply bN | apply bD | refine bS ?_ GE342.out | refine bS ?_ GE343.out | refine bS ?_ GE350.out)) hb); (try clear hb); (try clear hb2); (try clear hk); (try clear hi); (try clear ho0); (try clear ho1); obtain ⟨Ao127, co127, eo127⟩ := Kd.R_slice HO385.out; subst eo127; have hnb128 := NB343_342.out; have hnc128 := NB342_343.out; have hcz129_0 : w126.cell? ⟨gb343, 0, none⟩ = some (.slice none 0 0) := (blk_cell BK343.out 0).trans rfl; have hcz129_1 : w126.cell? ⟨gb343, 1, none⟩ = some (.slice none 0 0) := (blk_cell BK343.out 1).trans rfl; have hcz129_2 : w126.cell? ⟨gb343, 2, none⟩ = some (.int .i64 0) := (blk_cell BK343.out 2).trans rfl; have hfz129_0 := blk_frozen BK343.out 0; have hfz129_1 := blk_frozen BK343.out 1; have hfz129_2 := blk_frozen BK343.out 2; obtain ⟨Ao130, co130, eo130⟩ := Kd.R_slice HO388.out; subst eo130))
             refine bodyPost_ret (results_ct rfl _ _ gb343 27 #[.slice Ao127 t383.length co127, .slice Ao130 t386.length co130, .int .i64 t389] (0, 0) _ rfl (by (with_reducible repeat (first | apply kB | apply kC | apply kE)); refine blk_put (cs := #[.slice Ao127 t383.length co127, .slice Ao130 t386.length co130, .int .i64 0]) ?_ 2 _ rfl; (with_reducible repeat (first | apply kB | apply kC | apply kE)); refine blk_put (cs := #[.slice Ao127 t383.length co127, .slice none 0 0, .int .i64 0]) ?_ 1 _ rfl; (with_reducible repeat (first | apply kB | apply kC | apply kE)); refine blk_put (cs := #[.slice none 0 0, .slice none 0 0, .int .i64 0]) ?_ 0 _ rfl; (with_reducible repeat (first | apply kB | apply kC | apply kE)); exact BK343.out) Try.underlying27 rfl (by kernel_rfl)) rfl ?_
             exact ⟨_, _, by first | rfl | (simp [*, errW_none, errW_some] <;> rfl), by (with_reducible repeat (first | apply rA | apply rN | apply rD)); exact Kd.R_mono (Kd.R_far (p := ⟨gb343, 2, none⟩) (Kd.R_far (p := ⟨gb343, 1, none⟩) (Kd.R_far (p := ⟨gb343, 0, none⟩) (Kd.R_types HO385.out BK343.out (by decide)) (fun _ hk => hk.2) (.slice Ao127 t383.length co127)) (fun _ hk => hk.2) (.slice Ao130 t386.length co130)) (fun _ hk => hk.2) (.int .i64 t389)) (fun _ hk => hk.1.1.1), by (with_reducible repeat (first | apply rA | apply rN | apply rD)); exact Kd.R_mono (Kd.R_far (p := ⟨gb343, 2, none⟩) (Kd.R_far (p := ⟨gb343, 1, none⟩) (Kd.R_far (p := ⟨gb343, 0, none⟩) (Kd.R_types HO388.out BK343.out (by decide)) (fun _ hk => hk.2) (.slice Ao127 t383.length co127)) (fun _ hk => hk.2) (.slice Ao130 t386.length co130)) (fun _ hk => hk.2) (.int .i64 t389)) (fun _ hk => hk.1.1.1), by repeat (with_reducible first | exact HB.out | apply bA | apply bN | apply bD | refine bS ?_ GE342.out | refine bS ?_ GE343.out | refine bS ?_ GE350.out)⟩
end Go.Proofs.Ytlbaldejaapbiaa.QFnExactStatesAfter
