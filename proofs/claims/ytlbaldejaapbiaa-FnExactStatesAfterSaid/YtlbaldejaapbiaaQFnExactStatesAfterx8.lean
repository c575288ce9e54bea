-- Written by wip/myprint.py (a program of mine round the kit's printer). Lean checks it.
import Derived.Test.YtlbaldejaapbiaaQFnExactStatesAfterx0
import Derived.Test.YtlbaldejaapbiaaQFnExactStatesAfterx7
namespace Go.Proofs.Ytlbaldejaapbiaa.QFnExactStatesAfter
open Go.RowKit Go.Proofs.YtlbaldejaapbiaaW.PrintWords Go.Proofs.YtlbaldejaapbiaaW.PrintLast Go.Proofs.YtlbaldejaapbiaaW.PrintMore
attribute [local go_sem] max2_int min2_int max_two min_two max_three min_three max_four min_four
set_option linter.unusedVariables false
set_option linter.unusedSimpArgs false
set_option maxHeartbeats 8000000
set_option maxRecDepth 100000
theorem impl_State_same.drN {W : World} {b n : Nat} (h : b ≤ W.drawn) : b ≤ (W.drewN n).drawn := Nat.le_trans h (Nat.le_add_right _ _)
theorem impl_State_same.dr1 {W : World} {b : Nat} (h : b ≤ W.drawn) : b ≤ W.drew.drawn := Nat.le_succ_of_le h
theorem impl_State_same.drA {W : World} {b : Nat} {o : Obj} (h : b ≤ W.drawn) : b ≤ (W.alloc o).drawn := h
section
variable {P : Program} {ops : Array Oper} {rest : List Oper} {o : Oper} {a : Act} {Q : Exit → Act → World → Prop}
theorem impl_State_same.box_eventD {W : World} (hgd : o.guard = none) {N : Tmp} (_hd : o.dst = some N) {cs : Array Value} {t : TypeId}
 (hrun : (execOp a.eval o).run P W = .ok (.value (.pointer (some ⟨W.heap.size, 0, none⟩))) (W.alloc (.cells cs t (0, 0))))
 (h : ∀ g, g = W.heap.size → ∀ w1, w1.heap[g]? = some (.cells cs t (0, 0)) → Below W.heap.size W w1 → W.drawn ≤ w1.drawn → wpList P ops Q rest (a.put o.dst (.pointer (some ⟨g, 0, none⟩))) w1) : wpList P ops Q (o :: rest) a W :=
 Kd.event_run hgd hrun (h _ rfl _ (blk_new W _) (below_alloc (Below.refl _ _) _) (Nat.le_refl _))
end
def impl_State_same.f (k : Nat) (l0_0 : List Int) (l0_1 : List Int) (a0_2 : Int) (l1_0 : List Int) (l1_1 : List Int) (a1_2 : Int) : Option (Bool) := (slices_Equal_int_int.f k l0_0 l1_0).bind fun t328 => (if t328 = true then ((slices_Equal_int_int.f k l0_1 l1_1).bind fun t329 => (if t329 = true then (some (a0_2 == a1_2)) else (some false))) else (some false))
theorem impl_State_same.mono : ∀ a0 a1 a2 a3 a4 a5 k, LeO (impl_State_same.f k a0 a1 a2 a3 a4 a5) (impl_State_same.f (k + 1) a0 a1 a2 a3 a4 a5) := by
 intro a0 a1 a2 a3 a4 a5 k
 unfold impl_State_same.f
 repeat' first
  | (with_reducible first | exact slices_Equal_int_int.mono _ _ _ | exact LeO.refl _ | exact LeO.none _ | refine LeO.ite ?_ ?_ | refine LeO.bind ?_ (fun _ => ?_))
  | exact LeO.none _
  | refine LeO.ite ?_ ?_
  | refine LeO.bind ?_ (fun _ => ?_)
theorem impl_State_same.calls (k : Nat) (A0_0 : Option Addr) (c0_0 : Nat) (l0_0 : List Int) (A0_1 : Option Addr) (c0_1 : Nat) (l0_1 : List Int) (a0_2 : Int) (A1_0 : Option Addr) (c1_0 : Nat) (l1_0 : List Int) (A1_1 : Option Addr) (c1_1 : Nat) (l1_1 : List Int) (a1_2 : Int) (r : Bool) (w : World) (hr0_0 : Kd.C (Kd.int .i64) w A0_0 l0_0.length l0_0) (hc0_0 : l0_0.length ≤ c0_0) (hr0_1 : Kd.C (Kd.int .i64) w A0_1 l0_1.length l0_1) (hc0_1 : l0_1.length ≤ c0_1) (hr1_0 : Kd.C (Kd.int .i64) w A1_0 l1_0.length l1_0) (hc1_0 : l1_0.length ≤ c1_0) (hr1_1 : Kd.C (Kd.int .i64) w A1_1 l1_1.length l1_1) (hc1_1 : l1_1.length ≤ c1_1) (h : impl_State_same.f k l0_0 l0_1 a0_2 l1_0 l1_1 a1_2 = some r) :
 Calls Try.prog 44 #[.agg #[.slice A0_0 l0_0.length c0_0, .slice A0_1 l0_1.length c0_1, .int .i64 a0_2], .agg #[.slice A1_0 l1_0.length c1_0, .slice A1_1 l1_1.length c1_1, .int .i64 a1_2]] w fun e w' => e = .returned (.bool r) ∧ Below w.heap.size w w' ∧ w.drawn ≤ w'.drawn := by
 have hu27 := Try.underlying27
 have HR0_0 := am hr0_0
 have HC0_0 := am hc0_0
 clear hr0_0 hc0_0
 have HR0_1 := am hr0_1
 have HC0_1 := am hc0_1
 clear hr0_1 hc0_1
 have HR1_0 := am hr1_0
 have HC1_0 := am hc1_0
 clear hr1_0 hc1_0
 have HR1_1 := am hr1_1
 have HC1_1 := am hc1_1
 clear hr1_1 hc1_1
 have HB := am (Below.refl w.heap.size w)
 have HD := am (Nat.le_refl w.drawn)
 have H : ((slices_Equal_int_int.f k l0_0 l1_0).bind fun t328 => (if t328 = true then ((slices_Equal_int_int.f k l0_1 l1_1).bind fun t329 => (if t329 = true then (some (a0_2 == a1_2)) else (some false))) else (some false))) = some r := h
 clear h
 replace H := Option.bind_eq_some_iff.mp H
 obtain ⟨t328, A30, H⟩ := H
 replace H : (if t328 = true then ((slices_Equal_int_int.f k l0_1 l1_1).bind fun t329 => (if t329 = true then (some (a0_2 == a1_2)) else (some false))) else (some false)) = some r := H
 have A3 := am A30
 clear A30
 by_cases c4 : t328 = true
 ·subst c4
  have H1 : ((slices_Equal_int_int.f k l0_1 l1_1).bind fun t329 => (if t329 = true then (some (a0_2 == a1_2)) else (some false))) = some r := by rw [if_pos rfl] at H; exact H
  clear H
  have H := H1
  clear H1
  replace H := Option.bind_eq_some_iff.mp H
  obtain ⟨t329, A50, H⟩ := H
  replace H : (if t329 = true then (some (a0_2 == a1_2)) else (some false)) = some r := H
  have A5 := am A50
  clear A50
  by_cases c6 : t329 = true
  ·subst c6
   have H1 : (some (a0_2 == a1_2)) = some r := by rw [if_pos rfl] at H; exact H
   clear H
   have H := H1
   clear H1
   obtain rfl := Option.some.inj H
   go_enter Try.func44, Try.ntmps44
   go_wp2_with (first | ((with_reducible refine gate_dst (N := 2) rfl ?_); refine impl_State_same.box_eventD ?hg (N := 2) ?hd (cs := #[.slice A0_0 l0_0.length c0_0, .slice A0_1 l0_1.length c0_1, .int .i64 a0_2]) (t := 27) ?hr ?_; (case hd => rfl); (case hg => rfl); (case hr => first | (go_simp; done) | (go_simp; rfl)); intro gb326 hg w7 hbox hb hd_; have nD_ := am (@Nat.le_trans w.drawn _ _ (by repeat (first | exact HD.out | refine impl_State_same.drN ?_ | refine impl_State_same.dr1 ?_ | refine impl_State_same.drA ?_)) hd_); clear HD; have HD := nD_; clear nD_; clear hd_; have BK326 := am (hbox); have GW326 := am ((by rw [hg]; exact (below_size (by repeat (with_reducible first | exact HB.out | apply bA | apply bN | apply bD))) : w.heap.size ≤ gb326)); have GE326 := am ((by rw [hg]; exact (below_size (by repeat (with_reducible first | exact HB.out | apply bA | apply bN | apply bD))) : w.heap.size ≤ gb326)); replace HB := am (below_step (by repeat (with_reducible first | exact HB.out | apply bA | apply bN | apply bD)) hb); clear hb hbox hg) | ((with_reducible refine gate_dst (N := 3) rfl ?_); refine impl_State_same.box_eventD ?hg (N := 3) ?hd (cs := #[.slice A1_0 l1_0.length c1_0, .slice A1_1 l1_1.length c1_1, .int .i64 a1_2]) (t := 27) ?hr ?_; (case hd => rfl); (case hg => rfl); (case hr => first | (go_simp; done) | (go_simp; rfl)); intro gb327 hg w8 hbox hb hd_; have nD_ := am (@Nat.le_trans w.drawn _ _ (by repeat (first | exact HD.out | refine impl_State_same.drN ?_ | refine impl_State_same.dr1 ?_ | refine impl_State_same.drA ?_)) hd_); clear HD; have HD := nD_; clear nD_; clear hd_; have BK327 := am (hbox); have GW327 := am ((by rw [hg]; exact (below_size (by repeat (with_reducible first | exact HB.out | apply bA | apply bN | apply bD | refine bS ?_ GE326.out))) : w.heap.size ≤ gb327)); have GE327 := am ((by rw [hg]; exact (below_size (by repeat (with_reducible first | exact HB.out | apply bA | apply bN | apply bD | refine bS ?_ GE326.out))) : w.heap.size ≤ gb327)); replace HB := am (below_step (by repeat (with_reducible first | exact HB.out | apply bA | apply bN | apply bD | refine bS ?_ GE326.out)) hb); have NB326_327 := am ((by rw [hg]; exact Nat.ne_of_lt (blk_lt (g := gb326) (by (with_reducible repeat (first | apply kB | apply kC | apply kE)); exact BK326.out)) : gb326 ≠ gb327)); have NB327_326 := am ((by rw [hg]; exact Nat.ne_of_gt (blk_lt (g := gb326) (by (with_reducible repeat (first | apply kB | apply kC | apply kE)); exact BK326.out)) : gb327 ≠ gb326)); replace BK326 := am (blk_below (g := gb326) (by (with_reducible repeat (first | apply kB | apply kC | apply kE)); exact BK326.out) hb); clear hb hbox hg; have hnb9 := NB326_327.out; have hnc9 := NB327_326.out; have hcz10_0 : w8.cell? ⟨gb326, 0, none⟩ = some (.slice A0_0 l0_0.length c0_0) := (blk_cell BK326.out 0).trans rfl; have hcz10_1 : w8.cell? ⟨gb326, 1, none⟩ = some (.slice A0_1 l0_1.length c0_1) := (blk_cell BK326.out 1).trans rfl; have hcz10_2 : w8.cell? ⟨gb326, 2, none⟩ = some (.int .i64 a0_2) := (blk_cell BK326.out 2).trans rfl; have hfz10_0 := blk_frozen BK326.out 0; have hfz10_1 := blk_frozen BK326.out 1; have hfz10_2 := blk_frozen BK326.out 2; have hcz11_0 : w8.cell? ⟨gb327, 0, none⟩ = some (.slice A1_0 l1_0.length c1_0) := (blk_cell BK327.out 0).trans rfl; have hcz11_1 : w8.cell? ⟨gb327, 1, none⟩ = some (.slice A1_1 l1_1.length c1_1) := (blk_cell BK327.out 1).trans rfl; have hcz11_2 : w8.cell? ⟨gb327, 2, none⟩ = some (.int .i64 a1_2) := (blk_cell BK327.out 2).trans rfl; have hfz11_0 := blk_frozen BK327.out 0; have hfz11_1 := blk_frozen BK327.out 1; have hfz11_2 := blk_frozen BK327.out 2) | ((with_reducible refine gate_callee (f := 68) rfl ?_); refine goesL_ (some 9) rfl rfl Try.func68 (by kernel_rfl) rfl #[.slice A0_0 l0_0.length c0_0, .slice A1_0 l1_0.length c1_0] rfl (by (try simp only [mT, mC, mZ]); first | done | rfl) ?_; (with_reducible refine (slices_Equal_int_int.calls k _ _ l0_0 _ _ l1_0 true _ ?side1 ?side2 ?side3 ?side4 A3.out).mono ?_); (case side1 => repeat (first | exact (Kd.C_below HR0_0.out HB.out) | (with_reducible first | apply cA | apply cN | apply cD))); (case side2 => exact HC0_0.out); (case side3 => repeat (first | exact (Kd.C_below HR1_0.out HB.out) | (with_reducible first | apply cA | apply cN | apply cD))); (case side4 => exact HC1_0.out); rintro e w' ⟨rfl, ⟨nd, rfl⟩⟩; refine ⟨_, rfl, ?_⟩) | (go_at_call 68; (with_reducible refine (slices_Equal_int_int.calls k _ _ l0_1 _ _ l1_1 true _ ?side1 ?side2 ?side3 ?side4 A5.out).mono ?_); (case side1 => repeat (first | exact (Kd.C_below HR0_1.out (by repeat (with_reducible first | exact HB.out | apply bA | apply bN | apply bD | refine bS ?_ GE326.out | refine bS ?_ GE327.out))) | (with_reducible first | apply cA | apply cN | apply cD))); (case side2 => exact HC0_1.out); (case side3 => repeat (first | exact (Kd.C_below HR1_1.out (by repeat (with_reducible first | exact HB.out | apply bA | apply bN | apply bD | refine bS ?_ GE326.out | refine bS ?_ GE327.out))) | (with_reducible first | apply cA | apply cN | apply cD))); (case side4 => exact HC1_1.out); rintro e w' ⟨rfl, ⟨nd, rfl⟩⟩))
   go_ret
   exact ⟨by first | rfl | (simp [*, errW_none, errW_some] <;> rfl), by repeat (with_reducible first | exact HB.out | apply bA | apply bN | apply bD | refine bS ?_ GE326.out | refine bS ?_ GE327.out), by repeat (first | exact HD.out | refine impl_State_same.drN ?_ | refine impl_State_same.dr1 ?_ | refine impl_State_same.drA ?_)⟩
  ·replace c6 := Bool.eq_false_iff.mpr c6
   subst c6
   have H1 : (some false) = some r := by rw [if_neg (show ¬ (false = true) by decide)] at H; exact H
   clear H
   have H := H1
   clear H1
   obtain rfl := Option.some.inj H
   go_enter Try.func44, Try.ntmps44
   go_wp2_with (first | ((with_reducible refine gate_dst (N := 2) rfl ?_); refine impl_State_same.box_eventD ?hg (N := 2) ?hd (cs := #[.slice A0_0 l0_0.length c0_0, .slice A0_1 l0_1.length c0_1, .int .i64 a0_2]) (t := 27) ?hr ?_; (case hd => rfl); (case hg => rfl); (case hr => first | (go_simp; done) | (go_simp; rfl)); intro gb326 hg w12 hbox hb hd_; have nD_ := am (@Nat.le_trans w.drawn _ _ (by repeat (first | exact HD.out | refine impl_State_same.drN ?_ | refine impl_State_same.dr1 ?_ | refine impl_State_same.drA ?_)) hd_); clear HD; have HD := nD_; clear nD_; clear hd_; have BK326 := am (hbox); have GW326 := am ((by rw [hg]; exact (below_size (by repeat (with_reducible first | exact HB.out | apply bA | apply bN | apply bD))) : w.heap.size ≤ gb326)); have GE326 := am ((by rw [hg]; exact (below_size (by repeat (with_reducible first | exact HB.out | apply bA | apply bN | apply bD))) : w.heap.size ≤ gb326)); replace HB := am (below_step (by repeat (with_reducible first | exact HB.out | apply bA | apply bN | apply bD)) hb); clear hb hbox hg) | ((with_reducible refine gate_dst (N := 3) rfl ?_); refine impl_State_same.box_eventD ?hg (N := 3) ?hd (cs := #[.slice A1_0 l1_0.length c1_0, .slice A1_1 l1_1.length c1_1, .int .i64 a1_2]) (t := 27) ?hr ?_; (case hd => rfl); (case hg => rfl); (case hr => first | (go_simp; done) | (go_simp; rfl)); intro gb327 hg w13 hbox hb hd_; have nD_ := am (@Nat.le_trans w.drawn _ _ (by repeat (first | exact HD.out | refine impl_State_same.drN ?_ | refine impl_State_same.dr1 ?_ | refine impl_State_same.drA ?_)) hd_); clear HD; have HD := nD_; clear nD_; clear hd_; have BK327 := am (hbox); have GW327 := am ((by rw [hg]; exact (below_size (by repeat (with_reducible first | exact HB.out | apply bA | apply bN | apply bD | refine bS ?_ GE326.out))) : w.heap.size ≤ gb327)); have GE327 := am ((by rw [hg]; exact (below_size (by repeat (with_reducible first | exact HB.out | apply bA | apply bN | apply bD | refine bS ?_ GE326.out))) : w.heap.size ≤ gb327)); replace HB := am (below_step (by repeat (with_reducible first | exact HB.out | apply bA | apply bN | apply bD | refine bS ?_ GE326.out)) hb); have NB326_327 := am ((by rw [hg]; exact Nat.ne_of_lt (blk_lt (g := gb326) (by (with_reducible repeat (first | apply kB | apply kC | apply kE)); exact BK326.out)) : gb326 ≠ gb327)); have NB327_326 := am ((by rw [hg]; exact Nat.ne_of_gt (blk_lt (g := gb326) (by (with_reducible repeat (first | apply kB | apply kC | apply kE)); exact BK326.out)) : gb327 ≠ gb326)); replace BK326 := am (blk_below (g := gb326) (by (with_reducible repeat (first | apply kB | apply kC | apply kE)); exact BK326.out) hb); clear hb hbox hg; have hnb14 := NB326_327.out; have hnc14 := NB327_326.out; have hcz15_0 : w13.cell? ⟨gb326, 0, none⟩ = some (.slice A0_0 l0_0.length c0_0) := (blk_cell BK326.out 0).trans rfl; have hcz15_1 : w13.cell? ⟨gb326, 1, none⟩ = some (.slice A0_1 l0_1.length c0_1) := (blk_cell BK326.out 1).trans rfl; have hcz15_2 : w13.cell? ⟨gb326, 2, none⟩ = some (.int .i64 a0_2) := (blk_cell BK326.out 2).trans rfl; have hfz15_0 := blk_frozen BK326.out 0; have hfz15_1 := blk_frozen BK326.out 1; have hfz15_2 := blk_frozen BK326.out 2; have hcz16_0 : w13.cell? ⟨gb327, 0, none⟩ = some (.slice A1_0 l1_0.length c1_0) := (blk_cell BK327.out 0).trans rfl; have hcz16_1 : w13.cell? ⟨gb327, 1, none⟩ = some (.slice A1_1 l1_1.length c1_1) := (blk_cell BK327.out 1).trans rfl; have hcz16_2 : w13.cell? ⟨gb327, 2, none⟩ = some (.int .i64 a1_2) := (blk_cell BK327.out 2).trans rfl; have hfz16_0 := blk_frozen BK327.out 0; have hfz16_1 := blk_frozen BK327.out 1; have hfz16_2 := blk_frozen BK327.out 2) | ((with_reducible refine gate_callee (f := 68) rfl ?_); refine goesL_ (some 9) rfl rfl Try.func68 (by kernel_rfl) rfl #[.slice A0_0 l0_0.length c0_0, .slice A1_0 l1_0.length c1_0] rfl (by (try simp only [mT, mC, mZ]); first | done | rfl) ?_; (with_reducible refine (slices_Equal_int_int.calls k _ _ l0_0 _ _ l1_0 true _ ?side1 ?side2 ?side3 ?side4 A3.out).mono ?_); (case side1 => repeat (first | exact (Kd.C_below HR0_0.out HB.out) | (with_reducible first | apply cA | apply cN | apply cD))); (case side2 => exact HC0_0.out); (case side3 => repeat (first | exact (Kd.C_below HR1_0.out HB.out) | (with_reducible first | apply cA | apply cN | apply cD))); (case side4 => exact HC1_0.out); rintro e w' ⟨rfl, ⟨nd, rfl⟩⟩; refine ⟨_, rfl, ?_⟩) | (go_at_call 68; (with_reducible refine (slices_Equal_int_int.calls k _ _ l0_1 _ _ l1_1 false _ ?side1 ?side2 ?side3 ?side4 A5.out).mono ?_); (case side1 => repeat (first | exact (Kd.C_below HR0_1.out (by repeat (with_reducible first | exact HB.out | apply bA | apply bN | apply bD | refine bS ?_ GE326.out | refine bS ?_ GE327.out))) | (with_reducible first | apply cA | apply cN | apply cD))); (case side2 => exact HC0_1.out); (case side3 => repeat (first | exact (Kd.C_below HR1_1.out (by repeat (with_reducible first | exact HB.out | apply bA | apply bN | apply bD | refine bS ?_ GE326.out | refine bS ?_ GE327.out))) | (with_reducible first | apply cA | apply cN | apply cD))); (case side4 => exact HC1_1.out); rintro e w' ⟨rfl, ⟨nd, rfl⟩⟩))
   go_ret
   exact ⟨by first | rfl | (simp [*, errW_none, errW_some] <;> rfl), by repeat (with_reducible first | exact HB.out | apply bA | apply bN | apply bD | refine bS ?_ GE326.out | refine bS ?_ GE327.out), by repeat (first | exact HD.out | refine impl_State_same.drN ?_ | refine impl_State_same.dr1 ?_ | refine impl_State_same.drA ?_)⟩
 ·replace c4 := Bool.eq_false_iff.mpr c4
  subst c4
  have H1 : (some false) = some r := by rw [if_neg (show ¬ (false = true) by decide)] at H; exact H
  clear H
  have H := H1
  clear H1
  obtain rfl := Option.some.inj H
  go_enter Try.func44, Try.ntmps44
  go_wp2_with (first | ((with_reducible refine gate_dst (N := 2) rfl ?_); refine impl_State_same.box_eventD ?hg (N := 2) ?hd (cs := #[.slice A0_0 l0_0.length c0_0, .slice A0_1 l0_1.length c0_1, .int .i64 a0_2]) (t := 27) ?hr ?_; (case hd => rfl); (case hg => rfl); (case hr => first | (go_simp; done) | (go_simp; rfl)); intro gb326 hg w17 hbox hb hd_; have nD_ := am (@Nat.le_trans w.drawn _ _ (by repeat (first | exact HD.out | refine impl_State_same.drN ?_ | refine impl_State_same.dr1 ?_ | refine impl_State_same.drA ?_)) hd_); clear HD; have HD := nD_; clear nD_; clear hd_; have BK326 := am (hbox); have GW326 := am ((by rw [hg]; exact (below_size (by repeat (with_reducible first | exact HB.out | apply bA | apply bN | apply bD))) : w.heap.size ≤ gb326)); have GE326 := am ((by rw [hg]; exact (below_size (by repeat (with_reducible first | exact HB.out | apply bA | apply bN | apply bD))) : w.heap.size ≤ gb326)); replace HB := am (below_step (by repeat (with_reducible first | exact HB.out | apply bA | apply bN | apply bD)) hb); clear hb hbox hg) | ((with_reducible refine gate_dst (N := 3) rfl ?_); refine impl_State_same.box_eventD ?hg (N := 3) ?hd (cs := #[.slice A1_0 l1_0.length c1_0, .slice A1_1 l1_1.length c1_1, .int .i64 a1_2]) (t := 27) ?hr ?_; (case hd => rfl); (case hg => rfl); (case hr => first | (go_simp; done) | (go_simp; rfl)); intro gb327 hg w18 hbox hb hd_; have nD_ := am (@Nat.le_trans w.drawn _ _ (by repeat (first | exact HD.out | refine impl_State_same.drN ?_ | refine impl_State_same.dr1 ?_ | refine impl_State_same.drA ?_)) hd_); clear HD; have HD := nD_; clear nD_; clear hd_; have BK327 := am (hbox); have GW327 := am ((by rw [hg]; exact (below_size (by repeat (with_reducible first | exact HB.out | apply bA | apply bN | apply bD | refine bS ?_ GE326.out))) : w.heap.size ≤ gb327)); have GE327 := am ((by rw [hg]; exact (below_size (by repeat (with_reducible first | exact HB.out | apply bA | apply bN | apply bD | refine bS ?_ GE326.out))) : w.heap.size ≤ gb327)); replace HB := am (below_step (by repeat (with_reducible first | exact HB.out | apply bA | apply bN | apply bD | refine bS ?_ GE326.out)) hb); have NB326_327 := am ((by rw [hg]; exact Nat.ne_of_lt (blk_lt (g := gb326) (by (with_reducible repeat (first | apply kB | apply kC | apply kE)); exact BK326.out)) : gb326 ≠ gb327)); have NB327_326 := am ((by rw [hg]; exact Nat.ne_of_gt (blk_lt (g := gb326) (by (with_reducible repeat (first | apply kB | apply kC | apply kE)); exact BK326.out)) : gb327 ≠ gb326)); replace BK326 := am (blk_below (g := gb326) (by (with_reducible repeat (first | apply kB | apply kC | apply kE)); exact BK326.out) hb); clear hb hbox hg; have hnb19 := NB326_327.out; have hnc19 := NB327_326.out; have hcz20_0 : w18.cell? ⟨gb326, 0, none⟩ = some (.slice A0_0 l0_0.length c0_0) := (blk_cell BK326.out 0).trans rfl; have hcz20_1 : w18.cell? ⟨gb326, 1, none⟩ = some (.slice A0_1 l0_1.length c0_1) := (blk_cell BK326.out 1).trans rfl; have hcz20_2 : w18.cell? ⟨gb326, 2, none⟩ = some (.int .i64 a0_2) := (blk_cell BK326.out 2).trans rfl; have hfz20_0 := blk_frozen BK326.out 0; have hfz20_1 := blk_frozen BK326.out 1; have hfz20_2 := blk_frozen BK326.out 2; have hcz21_0 : w18.cell? ⟨gb327, 0, none⟩ = some (.slice A1_0 l1_0.length c1_0) := (blk_cell BK327.out 0).trans rfl; have hcz21_1 : w18.cell? ⟨gb327, 1, none⟩ = some (.slice A1_1 l1_1.length c1_1) := (blk_cell BK327.out 1).trans rfl; have hcz21_2 : w18.cell? ⟨gb327, 2, none⟩ = some (.int .i64 a1_2) := (blk_cell BK327.out 2).trans rfl; have hfz21_0 := blk_frozen BK327.out 0; have hfz21_1 := blk_frozen BK327.out 1; have hfz21_2 := blk_frozen BK327.out 2) | ((with_reducible refine gate_callee (f := 68) rfl ?_); refine goesL_ (some 9) rfl rfl Try.func68 (by kernel_rfl) rfl #[.slice A0_0 l0_0.length c0_0, .slice A1_0 l1_0.length c1_0] rfl (by (try simp only [mT, mC, mZ]); first | done | rfl) ?_; (with_reducible refine (slices_Equal_int_int.calls k _ _ l0_0 _ _ l1_0 false _ ?side1 ?side2 ?side3 ?side4 A3.out).mono ?_); (case side1 => repeat (first | exact (Kd.C_below HR0_0.out HB.out) | (with_reducible first | apply cA | apply cN | apply cD))); (case side2 => exact HC0_0.out); (case side3 => repeat (first | exact (Kd.C_below HR1_0.out HB.out) | (with_reducible first | apply cA | apply cN | apply cD))); (case side4 => exact HC1_0.out); rintro e w' ⟨rfl, ⟨nd, rfl⟩⟩; refine ⟨_, rfl, ?_⟩))
  go_ret
  exact ⟨by first | rfl | (simp [*, errW_none, errW_some] <;> rfl), by repeat (with_reducible first | exact HB.out | apply bA | apply bN | apply bD | refine bS ?_ GE326.out | refine bS ?_ GE327.out), by repeat (first | exact HD.out | refine impl_State_same.drN ?_ | refine impl_State_same.dr1 ?_ | refine impl_State_same.drA ?_)⟩
def impl_StartState.f  : Option (List Int × List Int × Int) := some (([] : List Int), ([] : List Int), 0)
theorem impl_StartState.calls  (r1 : List Int) (r2 : List Int) (r3 : Int) (w : World) (h : impl_StartState.f  = some (r1, r2, r3)) :
 Calls Try.prog 57 #[] w fun e w' => ∃ v0_ v1_ : Value, e = .returned (.agg #[v0_, v1_, .int .i64 r3]) ∧ Kd.R (Kd.int .i64) 3 w' w.heap.size (fun k_ => some k_ ≠ (v1_ : Value).ownBlock) v0_ r1 ∧ Kd.R (Kd.int .i64) 3 w' w.heap.size (fun k_ => some k_ ≠ (v0_ : Value).ownBlock) v1_ r2 ∧ Below w.heap.size w w' := by
 have hu27 := Try.underlying27
 have HB := am (Below.refl w.heap.size w)
 have H : (some (([] : List Int), ([] : List Int), 0)) = some (r1, r2, r3) := h
 clear h
 simp only [Option.some.injEq, Prod.mk.injEq] at H
 obtain ⟨rfl, rfl, rfl⟩ := H
 go_enter Try.func57, Try.ntmps57
 go_wp2_with (first | ((with_reducible refine gate_dst (N := 0) rfl ?_); refine box_event ?hg (N := 0) ?hd (cs := #[.slice none 0 0, .slice none 0 0, .int .i64 0]) (t := 27) ?hr ?_; (case hd => rfl); (case hg => rfl); (case hr => first | (go_simp; done) | (go_simp; rfl)); intro gb330 hg w1 hbox hb; have BK330 := am (hbox); have GW330 := am ((by rw [hg]; exact (below_size (by repeat (with_reducible first | exact HB.out | apply bA | apply bN | apply bD))) : w.heap.size ≤ gb330)); have GE330 := am ((by rw [hg]; exact (below_size (by repeat (with_reducible first | exact HB.out | apply bA | apply bN | apply bD))) : w.heap.size ≤ gb330)); replace HB := am (below_step (by repeat (with_reducible first | exact HB.out | apply bA | apply bN | apply bD)) hb); clear hb hbox hg; have hcz2_0 : w1.cell? ⟨gb330, 0, none⟩ = some (.slice none 0 0) := (blk_cell BK330.out 0).trans rfl; have hcz2_1 : w1.cell? ⟨gb330, 1, none⟩ = some (.slice none 0 0) := (blk_cell BK330.out 1).trans rfl; have hcz2_2 : w1.cell? ⟨gb330, 2, none⟩ = some (.int .i64 0) := (blk_cell BK330.out 2).trans rfl; have hfz2_0 := blk_frozen BK330.out 0; have hfz2_1 := blk_frozen BK330.out 1; have hfz2_2 := blk_frozen BK330.out 2))
 refine bodyPost_ret (results_cell_row rfl _ _ gb330 27 #[.slice none 0 0, .slice none 0 0, .int .i64 0] (0, 0) _ rfl (by (with_reducible repeat (first | apply kB | apply kC | apply kE)); refine blk_put (cs := #[.slice none 0 0, .slice none 0 0, .int .i64 0]) ?_ 2 _ rfl; (with_reducible repeat (first | apply kB | apply kC | apply kE)); refine blk_put (cs := #[.slice none 0 0, .slice none 0 0, .int .i64 0]) ?_ 1 _ rfl; (with_reducible repeat (first | apply kB | apply kC | apply kE)); refine blk_put (cs := #[.slice none 0 0, .slice none 0 0, .int .i64 0]) ?_ 0 _ rfl; (with_reducible repeat (first | apply kB | apply kC | apply kE)); exact BK330.out) Try.underlying27 rfl (by kernel_rfl)) rfl ?_
 exact ⟨_, _, by first | rfl | (simp [*, errW_none, errW_some] <;> rfl), by first | exact Kd.R_nil _ _ _ _ _ | exact Kd.N_nil _ _ _ _ _ | exact Kd.V_nil _ _ _ _ _ | exact Kd.Q_nil _ _ _ _ _ | exact Kd.S_nil _ _ _ _ _, by first | exact Kd.R_nil _ _ _ _ _ | exact Kd.N_nil _ _ _ _ _ | exact Kd.V_nil _ _ _ _ _ | exact Kd.Q_nil _ _ _ _ _ | exact Kd.S_nil _ _ _ _ _, by repeat (with_reducible first | exact HB.out | apply bA | apply bN | apply bD | refine bS ?_ GE330.out)⟩
theorem Kd_nil {w : World} {l : List Int} (h : Kd.C (Kd.int .i64) w none l.length l) : l = [] := by
 rcases l with _ | ⟨x, l⟩
 ·rfl
 ·obtain ⟨ad, e, _⟩ := Kd.at_int h 0 (by omega) (by first | (simp; done) | (simp; omega))
  cases e
def slices_Clone_int_int.f (l0 : List Int) : Option (List Int) := (some (([] : List Int) : List Int)).bind fun y331 => (if y331.length + l0.length < 17592186044416 then (some (y331 ++ l0)) else (none))
theorem slices_Clone_int_int.calls (A0 : Option Addr) (c0 : Nat) (l0 : List Int) (r : List Int) (w : World) (hr0 : Kd.C (Kd.int .i64) w A0 l0.length l0) (hc0 : l0.length ≤ c0) (h : slices_Clone_int_int.f l0 = some r) :
 Calls Try.prog 40 #[.slice A0 l0.length c0] w fun e w' => ∃ v0_ : Value, e = .returned (v0_) ∧ Kd.R (Kd.int .i64) 3 w' w.heap.size (fun _ => True) v0_ r ∧ Below w.heap.size w w' := by
 have HR0 := am hr0
 have HC0 := am hc0
 clear hr0 hc0
 have HB := am (Below.refl w.heap.size w)
 have H : ((some (([] : List Int) : List Int)).bind fun y331 => (if y331.length + l0.length < 17592186044416 then (some (y331 ++ l0)) else (none))) = some r := h
 clear h
 obtain ⟨y331, hy331⟩ : ∃ y_ : List Int, y_ = (([] : List Int)) := ⟨_, rfl⟩
 replace H : (if y331.length + l0.length < 17592186044416 then (some (y331 ++ l0)) else (none)) = some r := by first | (rw [hy331]; with_reducible exact H) | (have H2_ := (Option.bind_some _ _).symm.trans H; rw [hy331]; with_reducible exact H2_) | (have H2_ := (Option.bind_some _ _).symm.trans H; with_reducible exact H2_) | with_reducible exact H | (rw [hy331]; exact H) | exact H
 have Ny331 := am hy331
 clear hy331
 by_cases c2 : y331.length + l0.length < 17592186044416
 ·rw [if_pos c2] at H
  have LMc2 := am c2
  clear c2
  obtain ⟨y334, hy334⟩ : ∃ y_ : List Int, y_ = (y331 ++ l0) := ⟨_, rfl⟩
  replace H : (some y334) = some r := by first | (rw [hy334]; with_reducible exact H) | (have H2_ := (Option.bind_some _ _).symm.trans H; rw [hy334]; with_reducible exact H2_) | (have H2_ := (Option.bind_some _ _).symm.trans H; with_reducible exact H2_) | with_reducible exact H | (rw [hy334]; exact H) | exact H
  have Ny334 := am hy334
  clear hy334
  obtain rfl := Option.some.inj H
  have q22 : ∀ (w : World) (a : Option Addr) (n c n' c' : Nat), (binOp .eql 22 (.slice a n c) (.slice none n' c')).run Try.prog w = .ok (.bool a.isNone) w := fun w a n c n' c' => Go.Lib.run_eql_slice_nil w _ _ a n c n' c' Try.underlying22
  rcases A0 with _ | A0
  ·have hl0 : l0 = [] := Kd_nil HR0.out
   subst hl0
   go_enter Try.func40, Try.ntmps40
   go_wp2
   go_ret
   have hy : y334 = [] := by rw [Ny334.out, Ny331.out]; rfl
   rw [hy]
   exact ⟨_, rfl, Kd.R_nil _ _ _ _ _, HB.out⟩
  go_enter Try.func40, Try.ntmps40
  go_wp2_with (first | ((with_reducible refine gate_dst (N := 5) rfl ?_); refine Kd.R_lit (Kd.int .i64) _ 3 ?hg (N := 5) ?hd (xs := ([] : List Int)) (inner := []) (ok := fun _ => True) (okp := fun _ => True) ?hr ?hp (fun _ hk => hk) trivial (Below.refl _ _) (Nat.le_refl _) (by simp) ?_; (case hd => rfl); (case hg => rfl); (case hr => first | (go_simp; done) | (go_simp; rfl)); (case hp => exact (Reps.none _ _)); intro v332 w3 ho4 hb hg_ hnew_; clear hg_ hnew_; (first | rw [← Ny331.out] at ho4 | (simp only [Int.reduceToNat] at ho4; rw [← Ny331.out] at ho4)); have HO333 := am (Kd.R_lower ho4 (below_size (by repeat (with_reducible first | exact HB.out | apply bA | apply bN | apply bD)))); replace HB := am (below_step (by repeat (with_reducible first | exact HB.out | apply bA | apply bN | apply bD)) hb); clear hb ho4) | ((with_reducible refine gate_builtin (b := .append) (xs := #[.tmp 5, .tmp 6]) rfl ?_); at_builtin; refine Kd.R_append_rows (Kd.int .i64) (w0 := w) w.heap.size rfl (.tmp 5) (.tmp 6) 22 3 (.int .i64 0) 8 rfl Try.underlying22 info3 rfl (by decide) (by omega) v332 y331 l0 _ _ _ (fun _ => True) (fun _ => False) rfl rfl ?aO ?aR (fun _ _ h => h) (fun _ h => h.elim) ?aF ?aB ?aS ?aL ?_; (case aR => repeat (first | exact (Kd.C_below HR0.out HB.out) | (with_reducible first | apply cA | apply cN | apply cD))); (case aB => exact (by repeat (with_reducible first | exact HB.out | apply bA | apply bN | apply bD))); (case aF => exact (fun _ _ => trivial)); (case aO => exact (by (with_reducible repeat (first | apply rA | apply rN | apply rD)); exact HO333.out)); (case aS => exact (below_size (by repeat (with_reducible first | exact HB.out | apply bA | apply bN | apply bD)))); (case aL => have := LMc2.out; omega); intro v335 w5 ho hb hg hat; rw [← Ny334.out] at ho; replace HB := am (hb); have HO336 := am (ho); clear HO333; clear ho hb hg hat))
  go_ret
  exact ⟨_, by first | rfl | (simp [*, errW_none, errW_some] <;> rfl), by (with_reducible repeat (first | apply rA | apply rN | apply rD)); exact HO336.out, by repeat (with_reducible first | exact HB.out | apply bA | apply bN | apply bD)⟩
 ·rw [if_neg c2] at H
  exact absurd H (by simp)
structure MapAs (D : DataW Unit) (seen : List Int) : Prop where
 tidy : Go.Maps.Tidy D
 size : Go.Maps.size D = seen.length
 has : ∀ x, Go.Maps.has D (.int .i64 x) = decide (x ∈ seen)
 at_ : ∀ x, x ∈ seen → D.atKey (.int .i64 x) (.lit (.int .i64 0)) = .lit (.int .i64 (seen.idxOf x : Nat))
theorem MapAs.start : MapAs (.map [] : DataW Unit) [] := ⟨Go.Maps.tidy_empty, rfl, fun x => by simp [Go.Maps.has_eq], fun x hx => by cases hx⟩
theorem MapAs.put {D : DataW Unit} {seen : List Int} (h : MapAs D seen) {x : Int} (hx : x ∉ seen) : MapAs (D.put (.int .i64 x) (.lit (.int .i64 (seen.length : Nat)))) (seen ++ [x]) := by
 have hh : Go.Maps.has D (.int .i64 x) = false := by rw [h.has]; simp [hx]
 refine ⟨h.tidy.put (show WideAt.IsKeyLit (Lit.int .i64 x) from trivial) _, ?_, fun y => ?_, fun y hy => ?_⟩
 ·rw [Go.Maps.size_put h.tidy, hh, h.size]; simp
 ·by_cases e : y = x
  ·subst e
   rw [Go.Maps.has_put_same h.tidy.isMap (show WideAt.IsKeyLit (Lit.int .i64 y) from trivial)]; simp
  ·rw [Go.Maps.has_put_other (by intro e2; injection e2 with _ e2; exact e e2), h.has]
   simp [e]
 ·by_cases e : y = x
  ·subst e
   rw [Go.Maps.atKey_put_same h.tidy.isMap (show WideAt.IsKeyLit (Lit.int .i64 y) from trivial), List.idxOf_append, if_neg hx]; simp
  ·rw [Go.Maps.atKey_put_other (by intro e2; injection e2 with _ e2; exact e e2)]
   have hy2 : y ∈ seen := by simpa [e] using hy
   rw [h.at_ y hy2, List.idxOf_append, if_pos hy2]
def seeOne (seen : List Int) (x : Int) : List Int := if x ∈ seen then seen else seen ++ [x]
def ofSeen : List Int → List Int → List Int
 | seen, [] => seen
 | seen, x :: l => ofSeen (seeOne seen x) l
def ofOut : List Int → List Int → List Int
 | _, [] => []
 | seen, x :: l => (((seeOne seen x).idxOf x : Nat) : Int) :: ofOut (seeOne seen x) l
theorem ofSeen_snoc (x : Int) : ∀ (l seen : List Int), ofSeen seen (l ++ [x]) = seeOne (ofSeen seen l) x
 | [], _ => rfl
 | y :: l, seen => ofSeen_snoc x l (seeOne seen y)
theorem ofOut_snoc (x : Int) : ∀ (l seen : List Int), ofOut seen (l ++ [x]) = ofOut seen l ++ [(((seeOne (ofSeen seen l) x).idxOf x : Nat) : Int)]
 | [], _ => rfl
 | y :: l, seen => congrArg (_ :: ·) (ofOut_snoc x l (seeOne seen y))
theorem ofOut_length : ∀ (l seen : List Int), (ofOut seen l).length = l.length
 | [], _ => rfl
 | y :: l, seen => congrArg (· + 1) (ofOut_length l (seeOne seen y))
theorem seeOne_mem (seen : List Int) (x : Int) : x ∈ seeOne seen x := by
 unfold seeOne
 split
 ·assumption
 ·simp
theorem seeOne_length (seen : List Int) (x : Int) : (seeOne seen x).length ≤ seen.length + 1 := by
 unfold seeOne
 split
 ·omega
 ·simp
theorem ofSeen_length : ∀ (l seen : List Int), (ofSeen seen l).length ≤ seen.length + l.length
 | [], _ => by simp [ofSeen]
 | y :: l, seen => by
  have h1 := ofSeen_length l (seeOne seen y)
  have h2 := seeOne_length seen y
  simp only [ofSeen, List.length_cons]
  omega
def wfB (l : List Int) : Bool := l.all fun x => (Lit.int .i64 x).wf
theorem wfB_rd {l : List Int} (h : wfB l = true) {i : Int} (h0 : 0 ≤ i) (h1 : i < (l.length : Int)) : (Lit.int .i64 (rd l i)).wf = true := by
 have e : rd l i ∈ l := by
  unfold rd
  rw [List.getD_eq_getElem?_getD, List.getElem?_eq_getElem (by omega)]
  exact List.getElem_mem _
 exact List.all_eq_true.1 h _ e
theorem wf_small {n : Nat} (h : n < 4611686018427387904) : (Lit.int .i64 (n : Nat)).wf = true := WalkArith.wf_i64 (by omega)
theorem R_grownE {e : TypeId} {w w1 : World} {base : Nat} {v : Value} {xs : List Int} {row : Option Nat} (h : (Kd.int .i64).R e w base (fun _ => True) v xs) (hg : w.grownBy w1 row) (hok : ∀ k, v.ownBlock = some k → some k ≠ row) : (Kd.int .i64).R e w1 base (fun _ => True) v xs :=
 Kd.R_mono (Kd.R_grown (Kd.R_tight rfl h) hg (fun k hk => hok k hk.symm)) (fun _ _ => trivial)
theorem take_snoc (l : List Int) (i : Nat) (h : i < l.length) : l.take (i + 1) = l.take i ++ [rd l (i : Int)] := by
 rw [List.take_add_one, List.getElem?_eq_getElem h]
 unfold rd
 rw [Int.toNat_natCast, List.getD_eq_getElem?_getD, List.getElem?_eq_getElem h]; rfl
theorem impl_renumbered.zero (w : World) : (zeroValue 3).run Try.prog w = .ok (.int .i64 0) w := by
 have h : (Try.prog.info? 3).map (fun i => i.zero) = some (some (.int .i64 0)) := by kernel_rfl
 obtain ⟨i, hi, hz⟩ := Option.map_eq_some_iff.1 h
 simp [zeroValue, typeInfo, hi, hz]
theorem own_step {P : Program} {k : TypeId} {R : Value → Option (DataW Unit × List MemPlace)} {b n : Nat} {D : DataW Unit} {w w1 : World} (h : w.ownsMap P k R b n D) (e : w1.heap[b]? = w.heap[b]?) : w1.ownsMap P k R b n D := by
 obtain ⟨es, clock, hb, r⟩ := h
 exact ⟨es, clock, e.trans hb, r⟩
open Go.Maps in
theorem impl_renumbered.clo (A0 : Option Addr) (c0 : Nat) (l : List Int) (gb gm n : Nat) (seen : List Int) (D : DataW Unit) (w0 w : World) (hB : Below w0.heap.size w0 w) (hgm : w0.heap.size ≤ gm) (hr : ∀ W, Kept w W (fun k => k = gm) → Kd.C (Kd.int .i64) W A0 l.length l) (hc : l.length ≤ c0) (hwf : wfB l = true) (hl : l.length ≤ 1000000) (hn : n ≤ 1000000) (hbox : w.cell? ⟨gb, 0, none⟩ = some (.map (some gm))) (hown : w.ownsMap Try.prog 3 (plainElem Try.prog 3) gm n D) (hD : MapAs D seen) (hs : seen.length ≤ 1000000) :
 Calls Try.prog 67 (#[.slice A0 l.length c0] ++ #[.pointer (some ⟨gb, 0, none⟩)]) w fun e w' => ∃ v : Value, e = .returned v ∧ Kd.R (Kd.int .i64) 3 w' w.heap.size (fun _ => True) v (ofOut seen l) ∧ (∃ D' : DataW Unit, w'.ownsMap Try.prog 3 (plainElem Try.prog 3) gm (n + l.length) D' ∧ MapAs D' (ofSeen seen l)) ∧ Below w0.heap.size w0 w' ∧ Kept w w' (fun k => k = gm) := by
 have hbl : gb < w.heap.size := World.block_lt_of_cell? w _ hbox
 have hgl : gm < w.heap.size := hown.lt
 have law := int_keyed Try.underlying3
 have hbn : gb ≠ gm := by
  rintro rfl
  obtain ⟨es, clock, hb, _⟩ := hown
  simp [World.cell?, hb] at hbox
 have HR := am hr
 have HC := am hc
 have HWF := am hwf
 have HL := am hl
 have HN := am hn
 have HS := am hs
 have HBN := am hbn
 have HBX := am hbox
 have HBL := am hbl
 have HGL := am hgl
 have HGM := am hgm
 have HB0 := am hB
 have HO0 := am hown
 have HD0 := am hD
 clear hr hc hwf hl hn hs hbn hbl hgl hgm hB hown hD
 go_enter Try.func67, Try.ntmps67
 go_wp2_with (first | ((with_reducible refine gate_dst (N := 9) rfl ?_); refine Kd.R_lit (Kd.int .i64) _ 3 ?hg (N := 9) ?hd (xs := ([] : List Int)) (inner := []) (ok := fun _ => True) (okp := fun _ => True) ?hr ?hp (fun _ hk => hk) trivial (Below.refl _ _) (Nat.le_refl _) (by simp) ?_; (case hd => rfl); (case hg => rfl); (case hr => first | (go_simp; done) | (go_simp; rfl)); (case hp => exact (Reps.none _ _)); intro v1 w3 ho4 hb hg_ hnew_; clear hg_ hnew_; have HV1 := am (show Kd.R (Kd.int .i64) 3 w3 w.heap.size (fun _ => True) v1 (ofOut seen (l.take 0)) from ho4); have HO1 := am (own_step HO0.out (hb.block gm HGL.out)); have HB1 := am (below_step HB0.out hb); have HK1 := am (Kept.of_below hb (fun k => k = gm)); clear ho4 hb))
 go_loopg [4, 12] l.length (fun gg v4 v12 wr => ∃ (i : Nat) (D' : DataW Unit), v12 = .int .i64 (i : Nat) ∧ i ≤ l.length ∧ l.length - i ≤ gg ∧ Aside0 (Kd.R (Kd.int .i64) 3 wr w.heap.size (fun _ => True) v4 (ofOut seen (l.take i))) ∧ Aside0 (wr.ownsMap Try.prog 3 (plainElem Try.prog 3) gm (n + i) D') ∧ Aside0 (MapAs D' (ofSeen seen (l.take i))) ∧ Aside0 (Below w0.heap.size w0 wr) ∧ Aside0 (Kept w wr (fun k => k = gm)))
 case atStart => exact ⟨0, D, rfl, Nat.zero_le _, Nat.le_refl _, HV1, HO1, HD0, HB1, HK1⟩
 case round =>
  obtain ⟨i, D', rfl, hi, hgg, HV, HO, HD, HB, HK⟩ := hrel
  by_cases hlt : i < l.length
  ·have hltz : (i : Int) < (l.length : Int) := by omega
   have p1 : (0 ≤ ((i : Nat) : Int)) = True := eq_true (by omega)
   have p2 : (((i : Nat) : Int) < (l.length : Int)) = True := eq_true hltz
   have hcr : Kd.C (Kd.int .i64) wr A0 l.length l := HR.out wr HK.out
   obtain ⟨ad, e1, hx⟩ := Kd.at_int hcr ((i : Nat) : Int) (by omega) hltz
   subst e1
   rw [Int.toNat_natCast] at hx
   have hbx : wr.cell? ⟨gb, 0, none⟩ = some (.map (some gm)) := cell_kept HBX.out HK.out HBN.out
   have HXW := am (show (Lit.int .i64 (rd l ((i : Nat) : Int))).wf = true from wfB_rd HWF.out (by omega) hltz)
   clear hcr
   by_cases hm : rd l ((i : Nat) : Int) ∈ ofSeen seen (l.take i)
   ·have HM := am hm
    have HH := am (show Go.Maps.has D' (.int .i64 (rd l ((i : Nat) : Int))) = true by rw [HD.out.has]; simp [hm])
    clear hm
    have HSE := am (show seeOne (ofSeen seen (l.take i)) (rd l ((i : Nat) : Int)) = ofSeen seen (l.take i) from if_pos HM.out)
    go_wp2_with (first | (at_lookup; refine wpList_lookup_own_ok_int _ rfl _ _ 58 rfl 3 3 .i64 law Try.underlying58 Try.underlying3 (impl_renumbered.zero _) gm _ D' rfl HO.out _ _ rfl (keyOf_int_mk Try.underlying3 HXW.out) ?_; intro c0_ hat0_ hwc0_; rw [HH.out]) | (at_lookup; refine wpList_lookup_own_int _ rfl _ _ 58 rfl 3 3 .i64 law Try.underlying58 Try.underlying3 (impl_renumbered.zero _) gm _ _ rfl HO.out _ _ rfl (keyOf_int_mk Try.underlying3 HXW.out) ?_; intro c1_ hat1_ hwc1_; rw [(HD.out.at_ _ HM.out)] at hat1_; (injection hat1_ with hat1_; injection hat1_ with _ hat1_; subst hat1_)) | (at_builtin; refine Kd.R_append (Kd.int .i64) (w0 := wr) w.heap.size rfl (.tmp 28) (.tmp 32) 22 3 (.int .i64 0) 8 rfl Try.underlying22 info3 rfl (by decide) (by omega) _ (ofOut seen (l.take i)) ((((ofSeen seen (l.take i)).idxOf (rd l ((i : Nat) : Int)) : Nat) : Int)) [.int .i64 (((ofSeen seen (l.take i)).idxOf (rd l ((i : Nat) : Int)) : Nat) : Int)] (fun _ => True) (fun _ => False) rfl rfl ?aP (fun _ hk => hk.elim) ?aF ?aO ?aB ?aS ?aL ?_; (case aP => exact rfl); (case aF => exact (fun _ _ => trivial)); (case aO => exact HV.out); (case aB => exact Below.refl _ _); (case aS => exact HK.out.1); (case aL => rw [ofOut_length, List.length_take]; have := HL.out; omega); intro v9 w9 ho hb hg hat; have HV9 := am ho; have HGR := am hg; have HAT := am hat; clear ho hb hg hat))
    go_roundg (l.length - (i + 1))
    case measure => omega
    case rel =>
     have hgm9 : w9.heap[gm]? = wr.heap[gm]? := HGR.out.block gm (Nat.lt_of_lt_of_le HGL.out HK.out.1) (fun e_ => by have h1 := Kd.R_base HV.out gm e_.symm; have h2 := HGL.out; omega)
     refine ⟨i + 1, D', congrArg (Value.int .i64) (show wrap64 (((i : Nat) : Int) + 1) = ((i + 1 : Nat) : Int) by have := HL.out; unfold wrap64; omega), by omega, Nat.le_refl _, ⟨?_⟩, ⟨own_step (HO.out.mono (by omega)) hgm9⟩, ⟨?_⟩, ⟨HB.out.grown HGR.out HB.out.size (fun k_ h_ => Nat.le_trans HB0.out.size (Kd.R_base HV.out k_ h_))⟩, ⟨Kept.of_grown HGR.out HK.out (fun k_ h_ => .inr (Kd.R_base HV.out k_ h_))⟩⟩
     ·rw [take_snoc l i hlt, ofOut_snoc, HSE.out]
      exact HV9.out
     ·rw [take_snoc l i hlt, ofSeen_snoc, HSE.out]
      exact HD.out
   ·have HM := am hm
    have HH := am (show Go.Maps.has D' (.int .i64 (rd l ((i : Nat) : Int))) = false by rw [HD.out.has]; simp [hm])
    clear hm
    have HD2 := am (HD.out.put HM.out)
    have HSE := am (show seeOne (ofSeen seen (l.take i)) (rd l ((i : Nat) : Int)) = ofSeen seen (l.take i) ++ [rd l ((i : Nat) : Int)] from if_neg HM.out)
    have HLW := am (show (Lit.int .i64 ((ofSeen seen (l.take i)).length : Nat)).wf = true from wf_small (by have h1 := ofSeen_length (l.take i) seen; have := HS.out; have := HL.out; rw [List.length_take] at h1; omega))
    have HIX := am (show (ofSeen seen (l.take i) ++ [rd l ((i : Nat) : Int)]).idxOf (rd l ((i : Nat) : Int)) = (ofSeen seen (l.take i)).length by rw [List.idxOf_append, if_neg HM.out]; simp)
    go_wp2_with (first | (at_lookup; refine wpList_lookup_own_ok_int _ rfl _ _ 58 rfl 3 3 .i64 law Try.underlying58 Try.underlying3 (impl_renumbered.zero _) gm _ D' rfl HO.out _ _ rfl (keyOf_int_mk Try.underlying3 HXW.out) ?_; intro c0_ hat0_ hwc0_; rw [HH.out]) | (at_len; refine wpList_len_own _ rfl _ 58 rfl 3 3 Try.underlying58 _ gm _ D' rfl HO.out ?_; rw [HD.out.size]) | (at_mapUpdate; refine wpList_mapUpdate_own _ rfl _ _ _ 58 rfl 3 3 law Try.underlying58 _ gm _ D' rfl HO.out (by have := HN.out; have := HL.out; unfold maxLen; omega) _ _ _ rfl rfl (keyOf_int_mk Try.underlying3 HXW.out) _ [] (plainElem_int Try.underlying3 HLW.out) ?_; intro w1 hown1 hgrow1; have hbx1 : w1.cell? ⟨gb, 0, none⟩ = some (.map (some gm)) := hgrow1.cell hbx (fun e_ => HBN.out (by injection e_)); have HO2 := am (hown1.mono (Nat.le_refl _)); have HG2 := am hgrow1; have HB2 := am (HB.out.grown hgrow1 HB.out.size (fun j hj => by cases hj; exact HGM.out)); have HK2 := am (Kept.of_grown hgrow1 HK.out (fun k_ h_ => .inl (by injection h_ with h_; exact h_.symm))); have HV2 := am (R_grownE HV.out hgrow1 (fun k_ hk_ e_ => by injection e_ with e_; have h1 := Kd.R_base HV.out k_ hk_; have h2 := HGL.out; omega)); clear hown1 hgrow1) | (at_lookup; refine wpList_lookup_own_int _ rfl _ _ 58 rfl 3 3 .i64 law Try.underlying58 Try.underlying3 (impl_renumbered.zero _) gm _ _ rfl HO2.out _ _ rfl (keyOf_int_mk Try.underlying3 HXW.out) ?_; intro c1_ hat1_ hwc1_; rw [(HD2.out.at_ _ (by simp))] at hat1_; (injection hat1_ with hat1_; injection hat1_ with _ hat1_; subst hat1_)) | (at_builtin; refine Kd.R_append (Kd.int .i64) (w0 := w1) w.heap.size rfl (.tmp 28) (.tmp 32) 22 3 (.int .i64 0) 8 rfl Try.underlying22 info3 rfl (by decide) (by omega) _ (ofOut seen (l.take i)) ((((ofSeen seen (l.take i) ++ [rd l ((i : Nat) : Int)]).idxOf (rd l ((i : Nat) : Int)) : Nat) : Int)) [.int .i64 (((ofSeen seen (l.take i) ++ [rd l ((i : Nat) : Int)]).idxOf (rd l ((i : Nat) : Int)) : Nat) : Int)] (fun _ => True) (fun _ => False) rfl rfl ?aP (fun _ hk => hk.elim) ?aF ?aO ?aB ?aS ?aL ?_; (case aP => exact rfl); (case aF => exact (fun _ _ => trivial)); (case aO => exact HV2.out); (case aB => exact Below.refl _ _); (case aS => exact HK2.out.1); (case aL => rw [ofOut_length, List.length_take]; have := HL.out; omega); intro v9 w9 ho hb hg hat; have HV9 := am ho; have HGR := am hg; have HAT := am hat; clear ho hb hg hat))
    go_roundg (l.length - (i + 1))
    case measure => omega
    case rel =>
     have hgm9 : w9.heap[gm]? = w1.heap[gm]? := HGR.out.block gm (Nat.lt_of_lt_of_le HGL.out HK2.out.1) (fun e_ => by have h1 := Kd.R_base HV2.out gm e_.symm; have h2 := HGL.out; omega)
     refine ⟨i + 1, _, congrArg (Value.int .i64) (show wrap64 (((i : Nat) : Int) + 1) = ((i + 1 : Nat) : Int) by have := HL.out; unfold wrap64; omega), by omega, Nat.le_refl _, ⟨?_⟩, ⟨own_step (HO2.out.mono (by omega)) hgm9⟩, ⟨?_⟩, ⟨HB2.out.grown HGR.out HB2.out.size (fun k_ h_ => Nat.le_trans HB0.out.size (Kd.R_base HV2.out k_ h_))⟩, ⟨Kept.of_grown HGR.out HK2.out (fun k_ h_ => .inr (Kd.R_base HV2.out k_ h_))⟩⟩
     ·rw [take_snoc l i hlt, ofOut_snoc, HSE.out]
      exact HV9.out
     ·rw [take_snoc l i hlt, ofSeen_snoc, HSE.out]
      exact HD2.out
  ·obtain rfl : i = l.length := by omega
   have hltz : ¬ ((l.length : Nat) : Int) < (l.length : Int) := by omega
   rw [List.take_length] at HV HD
   go_wp2
   go_ret
   exact ⟨_, rfl, HV.out, ⟨D', HO.out, HD.out⟩, HB.out, HK.out⟩
theorem four_new (w : World) (a b c d : Obj) : ((((w.alloc a).alloc b).alloc c).alloc d).heap.size = w.heap.size + 4 ∧ ((((w.alloc a).alloc b).alloc c).alloc d).heap[w.heap.size]? = some a ∧ ((((w.alloc a).alloc b).alloc c).alloc d).heap[w.heap.size + 1]? = some b ∧ ((((w.alloc a).alloc b).alloc c).alloc d).heap[w.heap.size + 2]? = some c ∧ ((((w.alloc a).alloc b).alloc c).alloc d).heap[w.heap.size + 3]? = some d := by
 have h : ∀ (w : World) (o : Obj), (w.alloc o).heap.size = w.heap.size + 1 := fun w o => by simp
 refine ⟨by rw [h, h, h, h], kE (kE (kE (blk_new w a) b) c) d, ?_, ?_, ?_⟩
 ·have h1 := kE (kE (blk_new (w.alloc a) b) c) d
  rwa [h] at h1
 ·have h1 := kE (blk_new ((w.alloc a).alloc b) c) d
  rwa [h, h] at h1
 ·have h1 := blk_new (((w.alloc a).alloc b).alloc c) d
  rwa [h, h, h] at h1
theorem ownsMap_new {P : Program} {k : TypeId} {R : Value → Option (DataW Unit × List MemPlace)} {b : Nat} {w : World} (h : w.heap[b]? = some (.map #[] 0)) : w.ownsMap P k R b 0 (.map []) := by
 obtain ⟨es, clock, h1, r⟩ := World.ownsMap_made (H := Unit) w P k R
 rw [(Go.MapKept.heap_alloc w _).1] at h1
 injection h1 with h1
 injection h1 with h1 h2
 subst h1
 subst h2
 exact ⟨_, _, h, r⟩
theorem R_keptE {e : TypeId} {w w1 : World} {base : Nat} {S : Nat → Prop} {v : Value} {xs : List Int} (h : (Kd.int .i64).R e w base (fun _ => True) v xs) (hk : Kept w w1 S) (hn : ∀ k, v.ownBlock = some k → ¬ S k) : (Kd.int .i64).R e w1 base (fun _ => True) v xs :=
 Kd.R_mono (Kd.R_step (Kd.R_tight rfl h) (fun k hk2 hlt => hk.2 k hlt (hn k hk2.symm))) (fun _ _ => trivial)
theorem goesVS_ {P : Program} {ops : Array Oper} {Q : Exit → Act → World → Prop} {oi : Oper} {N : Option Tmp} {a : Act} {w : World} {K : Act → World → Prop} {g : FuncId} {lb : Array Value} {s : Tmp} {as_ : Array Operand} {ts : Array TypeId} (hs : a.eval (.tmp s) = .func (.func g) #[] lb) (eg : ∀ args w, (callFunc g args).run P w = .ok (.enter g args) w) (args : Array Value)
 (hw : Region.wanted oi (yielded ops a.tmps) = true) (hN : oi.dst = N) (hop : oi.op = .call { callee := .value (.tmp s), args := as_, argTypes := ts }) (hargs : as_.map a.eval = args)
 (h : Calls P g (args ++ lb) w fun e w' => ∃ v, e = .returned v ∧ K (a.put N v) w') : if Region.wanted oi (yielded ops a.tmps) = true then Oper.wp P oi a w K Q else K (a.put N undef) w := by
 refine call_ g (args ++ lb) hw hN ?_ h
 unfold execOp
 simp [hop, resolve, Deferred.ofValue, invoke, hs, hargs, eg]
def impl_renumbered.f (l0_0 l0_1 : List Int) (a0_2 : Int) : Option (List Int × List Int × Int) := if wfB l0_0 = true ∧ wfB l0_1 = true ∧ l0_0.length ≤ 1000 ∧ l0_1.length ≤ 1000 then some (ofOut [] l0_0, ofOut (ofSeen [] l0_0) l0_1, a0_2) else none
theorem impl_renumbered.calls (A0_0 : Option Addr) (c0_0 : Nat) (l0_0 : List Int) (A0_1 : Option Addr) (c0_1 : Nat) (l0_1 : List Int) (a0_2 : Int) (r1 : List Int) (r2 : List Int) (r3 : Int) (w : World) (hr0_0 : Kd.C (Kd.int .i64) w A0_0 l0_0.length l0_0) (hc0_0 : l0_0.length ≤ c0_0) (hr0_1 : Kd.C (Kd.int .i64) w A0_1 l0_1.length l0_1) (hc0_1 : l0_1.length ≤ c0_1) (h : impl_renumbered.f l0_0 l0_1 a0_2 = some (r1, r2, r3)) :
 Calls Try.prog 43 #[.agg #[.slice A0_0 l0_0.length c0_0, .slice A0_1 l0_1.length c0_1, .int .i64 a0_2]] w fun e w' => ∃ v0_ v1_ : Value, e = .returned (.agg #[v0_, v1_, .int .i64 r3]) ∧ Kd.R (Kd.int .i64) 3 w' w.heap.size (fun k_ => some k_ ≠ (v1_ : Value).ownBlock) v0_ r1 ∧ Kd.R (Kd.int .i64) 3 w' w.heap.size (fun k_ => some k_ ≠ (v0_ : Value).ownBlock) v1_ r2 ∧ Below w.heap.size w w' := by
 have hu := Try.underlying27
 unfold impl_renumbered.f at h
 split at h
 ·rename_i hc
  obtain ⟨hw0, hw1, hl0, hl1⟩ := hc
  simp only [Option.some.injEq, Prod.mk.injEq] at h
  obtain ⟨rfl, rfl, rfl⟩ := h
  have HR0_0 := am hr0_0
  have HC0_0 := am hc0_0
  have HR0_1 := am hr0_1
  have HC0_1 := am hc0_1
  have HW0 := am hw0
  have HW1 := am hw1
  have HL0 := am hl0
  have HL1 := am hl1
  clear hr0_0 hc0_0 hr0_1 hc0_1 hw0 hw1 hl0 hl1
  have eg := fun args w => enters_ (P := Try.prog) Try.func67 (by kernel_rfl) rfl args w
  have hmm := @run_makeMap Try.prog
  go_enter Try.func43, Try.ntmps43
  go_upto_region 3 with (fail)
  (try simp only [Act.put, sI, s0_, s1_])
  have hb0 : Below w.heap.size w ((((w.alloc (.cells #[.slice A0_0 l0_0.length c0_0, .slice A0_1 l0_1.length c0_1, .int .i64 a0_2] 27)).alloc (.cells #[.slice none 0 0, .slice none 0 0, .int .i64 0] 27)).alloc (.map #[] 0)).alloc (.cells #[.map (some (w.heap.size + 1 + 1))] 58)) := by repeat (first | exact Below.refl _ _ | apply bA)
  obtain ⟨hs0, ks, kr, km, kb⟩ := four_new w (.cells #[.slice A0_0 l0_0.length c0_0, .slice A0_1 l0_1.length c0_1, .int .i64 a0_2] 27) (.cells #[.slice none 0 0, .slice none 0 0, .int .i64 0] 27) (.map #[] 0) (.cells #[.map (some (w.heap.size + 1 + 1))] 58)
  rw [show w.heap.size + 1 + 1 = w.heap.size + 2 by omega] at hs0 ks kr km kb ⊢ hb0
  generalize ((((w.alloc (.cells #[.slice A0_0 l0_0.length c0_0, .slice A0_1 l0_1.length c0_1, .int .i64 a0_2] 27)).alloc (.cells #[.slice none 0 0, .slice none 0 0, .int .i64 0] 27)).alloc (.map #[] 0)).alloc (.cells #[.map (some (w.heap.size + 2))] 58)) = wb at hb0 hs0 ks kr km kb ⊢
  have KS := am (kC ks)
  have KR := am (kC kr)
  have KM := am (kC km)
  have KB := am (kC kb)
  have HB := am (below_drew1 hb0)
  have HSZ := am (show wb.drew.heap.size = w.heap.size + 4 from hs0)
  clear ks kr km kb hb0 hs0
  have EG := am eg
  clear eg
  refine start_ (n := 12) (S := fun w' => w'.cell? ⟨w.heap.size, 0, none⟩ = some (.slice A0_0 l0_0.length c0_0) ∧ w'.cell? ⟨w.heap.size, 1, none⟩ = some (.slice A0_1 l0_1.length c0_1) ∧ w'.cell? ⟨w.heap.size, 2, none⟩ = some (.int .i64 a0_2)) (ds := [11]) #[false, false, false, false, false, false, false, false, false, false, false, false] (by kernel_rfl) rfl rfl ⟨(blk_cell KS.out 0).trans rfl, (blk_cell KS.out 1).trans rfl, (blk_cell KS.out 2).trans rfl⟩ (fun hHeld => ?_)
  generalize wb.drew = wd at KS KR KM KB HB HSZ hHeld ⊢
  refine pure_ (i := 0) (N := some 7) (v := ?_) (a' := ?_) #[true, false, false, false, false, false, false, false, false, false, false, false] rfl rfl (by kernel_rfl) (fun _ _ _ h => h) (Or.inl ⟨by rfl, ?_⟩) ?_ ?_
  rotate_left
  ·intro w'
   go_simp
   with_reducible rfl
  rotate_left
  ·simp only [Act.put, sI, s0_, s1_, i64_w, i32_w]
   rfl
  refine pure_ (i := 1) (N := some 8) (v := ?_) (a' := ?_) #[true, true, false, false, false, false, false, false, false, false, false, false] rfl rfl (by kernel_rfl) (fun _ _ _ h => h) (Or.inl ⟨by rfl, ?_⟩) ?_ ?_
  rotate_left
  ·intro w'
   go_simp
   with_reducible rfl
  rotate_left
  ·simp only [Act.put, sI, s0_, s1_, i64_w, i32_w]
   rfl
  refine pure_ (i := 4) (N := some 11) (v := ?_) (a' := ?_) #[true, true, false, false, true, false, false, false, false, false, false, false] rfl rfl (by kernel_rfl) (fun _ _ _ h => h) (Or.inl ⟨by rfl, ?_⟩) ?_ ?_
  rotate_left
  ·intro w'
   go_simp
   with_reducible rfl
  rotate_left
  ·simp only [Act.put, sI, s0_, s1_, i64_w, i32_w]
   rfl
  refine pure_ (i := 5) (N := some 12) (v := ?_) (a' := ?_) #[true, true, false, false, true, true, false, false, false, false, false, false] rfl rfl (by kernel_rfl) (fun _ _ _ h => h) (Or.inl ⟨by rfl, ?_⟩) ?_ ?_
  rotate_left
  ·intro w'
   go_simp
   with_reducible rfl
  rotate_left
  ·simp only [Act.put, sI, s0_, s1_, i64_w, i32_w]
   rfl
  refine pure_ (i := 8) (N := some 15) (v := ?_) (a' := ?_) #[true, true, false, false, true, true, false, false, true, false, false, false] rfl rfl (by kernel_rfl) (fun _ _ _ h => h) (Or.inl ⟨by rfl, ?_⟩) ?_ ?_
  rotate_left
  ·intro w'
   go_simp
   with_reducible rfl
  rotate_left
  ·simp only [Act.put, sI, s0_, s1_, i64_w, i32_w]
   rfl
  refine take_ (i := 2) (N := some 9) (v := ?_) (a' := ?_) #[true, true, true, false, true, true, false, false, true, false, false, false] rfl rfl (by kernel_rfl) (fun _ _ _ h => h) (Or.inl ⟨by rfl, ?_⟩) hHeld ?_ ?_
  rotate_left
  ·rintro w' ⟨s0, s1, s2⟩
   go_simp
   with_reducible rfl
  rotate_left
  ·simp only [Act.put, sI, s0_, s1_, i64_w, i32_w]
   rfl
  refine take_ (i := 6) (N := some 13) (v := ?_) (a' := ?_) #[true, true, true, false, true, true, true, false, true, false, false, false] rfl rfl (by kernel_rfl) (fun _ _ _ h => h) (Or.inl ⟨by rfl, ?_⟩) hHeld ?_ ?_
  rotate_left
  ·rintro w' ⟨s0, s1, s2⟩
   go_simp
   with_reducible rfl
  rotate_left
  ·simp only [Act.put, sI, s0_, s1_, i64_w, i32_w]
   rfl
  refine take_ (i := 9) (N := some 16) (v := ?_) (a' := ?_) #[true, true, true, false, true, true, true, false, true, true, false, false] rfl rfl (by kernel_rfl) (fun _ _ _ h => h) (Or.inl ⟨by rfl, ?_⟩) hHeld ?_ ?_
  rotate_left
  ·rintro w' ⟨s0, s1, s2⟩
   go_simp
   with_reducible rfl
  rotate_left
  ·simp only [Act.put, sI, s0_, s1_, i64_w, i32_w]
   rfl
  refine one_ (i := 3) (N := some 10) #[true, true, true, true, true, true, true, false, true, true, false, false] rfl rfl (by kernel_rfl) (by decide) (fun K hK => ?_)
  refine goesVS_ (s := 7) (g := 67) (lb := #[.pointer (some ⟨w.heap.size + 3, 0, none⟩)]) (by rfl) EG.out #[.slice A0_0 l0_0.length c0_0] (by rfl) rfl rfl (by (try simp only [mT, mC, mZ]); first | done | rfl) ?_
  refine (impl_renumbered.clo A0_0 c0_0 l0_0 (w.heap.size + 3) (w.heap.size + 2) 0 [] (.map []) w wd HB.out (by omega) (Kd.C_kept_came (Kd.heap_int _) HR0_0.out HB.out (fun k_ h_ => by omega)) HC0_0.out HW0.out (by have := HL0.out; omega) (by omega) ((blk_cell KB.out 0).trans rfl) (ownsMap_new KM.out) MapAs.start (by simp)).mono ?_
  rintro e w5 ⟨v1, rfl, ho, ⟨D1, hown, hD⟩, hb, hk⟩
  refine ⟨_, rfl, ?_⟩
  have HO1 := am ho
  have HM1 := am hown
  have HD1 := am hD
  have HK5 := am hk
  have n0_ := am (blk_kept KS.out hk (by omega))
  have n1_ := am (blk_kept KR.out hk (by omega))
  have n3_ := am (blk_kept KB.out hk (by omega))
  have n4_ := am hb
  clear KS KR KB HB KM ho hown hD hk hb
  have KS := n0_
  have KR := n1_
  have KB := n3_
  have HB := n4_
  clear n0_ n1_ n3_ n4_
  refine hK.out _ _ ⟨(blk_cell KS.out 0).trans rfl, (blk_cell KS.out 1).trans rfl, (blk_cell KS.out 2).trans rfl⟩ (fun hHeld => ?_)
  clear hK K
  refine norm_ (a' := ?_) ?_ ?_
  rotate_left
  ·show Act.put _ (some 10) _ = _
   simp only [Act.put, sI, s0_, s1_, i64_w, i32_w]
   rfl
  refine one_ (i := 7) (N := some 14) #[true, true, true, true, true, true, true, true, true, true, false, false] rfl rfl (by kernel_rfl) (by decide) (fun K hK => ?_)
  refine goesVS_ (s := 11) (g := 67) (lb := #[.pointer (some ⟨w.heap.size + 3, 0, none⟩)]) (by rfl) EG.out #[.slice A0_1 l0_1.length c0_1] (by rfl) rfl rfl (by (try simp only [mT, mC, mZ]); first | done | rfl) ?_
  refine (impl_renumbered.clo A0_1 c0_1 l0_1 (w.heap.size + 3) (w.heap.size + 2) (0 + l0_0.length) (ofSeen [] l0_0) D1 w w5 HB.out (by omega) (Kd.C_kept_came (Kd.heap_int _) HR0_1.out HB.out (fun k_ h_ => by omega)) HC0_1.out HW1.out (by have := HL1.out; omega) (by have := HL0.out; omega) ((blk_cell KB.out 0).trans rfl) HM1.out HD1.out (by have h1 := ofSeen_length l0_0 []; have := HL0.out; simp only [List.length_nil] at h1; omega)).mono ?_
  rintro e w6 ⟨v2, rfl, ho, _, hb, hk⟩
  refine ⟨_, rfl, ?_⟩
  have HO2 := am ho
  have HLT1 := am (Kd.R_lt HO1.out)
  have n0_ := am (blk_kept KS.out hk (by omega))
  have n1_ := am (blk_kept KR.out hk (by omega))
  have n4_ := am hb
  have n5_ := am (R_keptE HO1.out hk (fun k_ h_ e_ => by have h1 := Kd.R_base HO1.out k_ h_; have h2 := HSZ.out; omega))
  clear KS KR KB HB HM1 HD1 HO1 ho hk hb
  have KS := n0_
  have KR := n1_
  have HB := n4_
  have HO1 := n5_
  clear n0_ n1_ n4_ n5_
  obtain ⟨E0, d0, e0⟩ := Kd.R_slice HO1.out
  subst e0
  obtain ⟨E1, d1, e1⟩ := Kd.R_slice HO2.out
  subst e1
  refine hK.out _ _ ⟨(blk_cell KS.out 0).trans rfl, (blk_cell KS.out 1).trans rfl, (blk_cell KS.out 2).trans rfl⟩ (fun hHeld => ?_)
  clear hK K
  refine norm_ (a' := ?_) ?_ ?_
  rotate_left
  ·show Act.put _ (some 14) _ = _
   simp only [Act.put, sI, s0_, s1_, i64_w, i32_w]
   rfl
  refine pure_ (i := 10) (N := some 17) (v := ?_) (a' := ?_) #[true, true, true, true, true, true, true, true, true, true, true, false] rfl rfl (by kernel_rfl) (fun _ _ _ h => h) (Or.inl ⟨by rfl, ?_⟩) ?_ ?_
  rotate_left
  ·intro w'
   go_simp
   with_reducible rfl
  rotate_left
  ·simp only [Act.put, sI, s0_, s1_, i64_w, i32_w]
   rfl
  refine last_ (i := 11) (N := none) #[true, true, true, true, true, true, true, true, true, true, true, true] rfl rfl (by kernel_rfl) (by decide) (fun K hK => ?_)
  have hz0 : w6.cell? ⟨w.heap.size + 1, 0, none⟩ = some (.slice none 0 0) := (blk_cell KR.out 0).trans rfl
  have hf0 := blk_frozen KR.out 0
  have hz1 : w6.cell? ⟨w.heap.size + 1, 1, none⟩ = some (.slice none 0 0) := (blk_cell KR.out 1).trans rfl
  have hf1 := blk_frozen KR.out 1
  have hz2 : w6.cell? ⟨w.heap.size + 1, 2, none⟩ = some (.int .i64 0) := (blk_cell KR.out 2).trans rfl
  have hf2 := blk_frozen KR.out 2
  refine skip_ (w1 := ?_) (by rfl) rfl ?_ ?_
  rotate_left
  ·go_simp
   rfl
  refine hK.out _ _ ?_
  clear hK K
  refine done_ (by kernel_rfl) ?_
  try go_wp2
  refine bodyPost_ret (results_cell_row rfl _ _ (w.heap.size + 1) 27 #[(.slice E0 (ofOut [] l0_0).length d0), (.slice E1 (ofOut (ofSeen [] l0_0) l0_1).length d1), .int .i64 a0_2] (0, 0) _ rfl (by refine blk_put (cs := #[(.slice E0 (ofOut [] l0_0).length d0), (.slice E1 (ofOut (ofSeen [] l0_0) l0_1).length d1), .int .i64 0]) ?_ 2 _ rfl; refine blk_put (cs := #[(.slice E0 (ofOut [] l0_0).length d0), .slice none 0 0, .int .i64 0]) ?_ 1 _ rfl; refine blk_put (cs := #[.slice none 0 0, .slice none 0 0, .int .i64 0]) ?_ 0 _ rfl; exact KR.out) Try.underlying27 rfl (by kernel_rfl)) rfl ?_
  have hsz5 : w.heap.size ≤ wd.heap.size := by have := HSZ.out; omega
  exact ⟨_, _, rfl, Kd.R_mono (Kd.R_tight rfl (Kd.R_far (p := ⟨w.heap.size + 1, 2, none⟩) (Kd.R_far (p := ⟨w.heap.size + 1, 1, none⟩) (Kd.R_far (p := ⟨w.heap.size + 1, 0, none⟩) (Kd.R_types (Kd.R_lower HO1.out hsz5) KR.out (by decide)) (fun _ hk => hk.2) _) (fun _ hk => hk.2) _) (fun _ hk => hk.2) _)) (fun k_ hk_ e_ => by have h1 := HLT1.out k_ hk_.symm; have h2 := Kd.R_base HO2.out k_ e_.symm; omega), Kd.R_mono (Kd.R_tight rfl (Kd.R_far (p := ⟨w.heap.size + 1, 2, none⟩) (Kd.R_far (p := ⟨w.heap.size + 1, 1, none⟩) (Kd.R_far (p := ⟨w.heap.size + 1, 0, none⟩) (Kd.R_types (Kd.R_lower HO2.out (Nat.le_trans hsz5 HK5.out.1)) KR.out (by decide)) (fun _ hk => hk.2) _) (fun _ hk => hk.2) _) (fun _ hk => hk.2) _)) (fun k_ hk_ e_ => by have h1 := HLT1.out k_ e_.symm; have h2 := Kd.R_base HO2.out k_ hk_.symm; omega), by repeat (with_reducible first | exact HB.out | refine bS ?_ (Nat.le_succ _))⟩
 ·cases h
def impl_last.f (l0 : List Int) : Option (List Int × Int) := if 0 ≤ (wrap64 ((l0.length : Int) - 1)) then (if (wrap64 ((l0.length : Int) - 1)) ≤ (l0.length : Int) then ((slices_Clone_int_int.f (l0.take ((wrap64 ((l0.length : Int) - 1)) : Int).toNat)).bind fun t338 => (if (wrap64 ((l0.length : Int) - 1)) < (l0.length : Int) then (some (t338, rd l0 (wrap64 ((l0.length : Int) - 1)))) else (none))) else (none)) else (none)
def impl_last.T2 : Bool × List (List Nat × List Nat) := (true, [([], []), ([], []), ([0, 1], [0, 1]), ([2], [2]), ([], []), ([], []), ([4, 5], [4, 5]), ([6], [6]), ([3, 3, 0, 1, 2, 3], [3]), ([7, 8, 0, 1, 2, 3, 4, 5, 6, 7, 8], [7])])
def impl_last.B2 : List Nat := [0, 0, 3, 7, 0, 0, 48, 112, 15, 511]
theorem impl_last.tab2 : rtab .any (opsOf Try.f75 2) = impl_last.T2 := by kernel_rfl
theorem impl_last.bits2 : waitsOk impl_last.T2.2 impl_last.B2 = true := by kernel_rfl
theorem impl_last.calls (A0 : Option Addr) (c0 : Nat) (l0 : List Int) (r1 : List Int) (r2 : Int) (w : World) (hr0 : Kd.C (Kd.int .i64) w A0 l0.length l0) (hc0 : l0.length ≤ c0) (h : impl_last.f l0 = some (r1, r2)) :
 Calls Try.prog 75 #[.slice A0 l0.length c0] w fun e w' => ∃ v0_ : Value, e = .returned (.tuple #[v0_, .int .i64 r2]) ∧ Kd.R (Kd.int .i64) 3 w' w.heap.size (fun _ => True) v0_ r1 ∧ Below w.heap.size w w' := by
 have HR0 := am hr0
 have HC0 := am hc0
 clear hr0 hc0
 have HB := am (Below.refl w.heap.size w)
 have H : (if 0 ≤ (wrap64 ((l0.length : Int) - 1)) then (if (wrap64 ((l0.length : Int) - 1)) ≤ (l0.length : Int) then ((slices_Clone_int_int.f (l0.take ((wrap64 ((l0.length : Int) - 1)) : Int).toNat)).bind fun t338 => (if (wrap64 ((l0.length : Int) - 1)) < (l0.length : Int) then (some (t338, rd l0 (wrap64 ((l0.length : Int) - 1)))) else (none))) else (none)) else (none)) = some (r1, r2) := h
 clear h
 obtain ⟨ji2, hji2⟩ : ∃ j_ : Int, (wrap64 ((l0.length : Int) - 1)) = j_ := ⟨_, rfl⟩
 replace H : (if 0 ≤ (ji2) then (if (ji2) ≤ (l0.length : Int) then ((slices_Clone_int_int.f (l0.take ((ji2) : Int).toNat)).bind fun t338 => (if (ji2) < (l0.length : Int) then (some (t338, rd l0 (ji2))) else (none))) else (none)) else (none)) = some (r1, r2) := by first | (rw [hji2] at H; exact H) | (simp only [hji2] at H ⊢; exact H)
 have hji2w : (IntKind.i64.wrap ((l0.length : Int) - 1)) = ji2 := (i64_w _).trans hji2
 by_cases c3 : 0 ≤ (ji2)
 ·rw [if_pos c3] at H
  have c3b0 := eq_true c3
  have c3b1 : decide (0 ≤ (ji2)) = true := decide_eq_true c3
  clear c3
  by_cases c4 : (ji2) ≤ (l0.length : Int)
  ·rw [if_pos c4] at H
   have c4b0 := eq_true c4
   have c4b1 : decide ((ji2) ≤ (l0.length : Int)) = true := decide_eq_true c4
   clear c4
   replace H := Option.bind_eq_some_iff.mp H
   obtain ⟨t338, A50, H⟩ := H
   replace H : (if (ji2) < (l0.length : Int) then (some (t338, rd l0 (ji2))) else (none)) = some (r1, r2) := H
   have A5 := am A50
   clear A50
   by_cases c6 : (ji2) < (l0.length : Int)
   ·rw [if_pos c6] at H
    have c6b0 : decide ((ji2) < (l0.length : Int)) = true := decide_eq_true c6
    clear c6
    simp only [Option.some.injEq, Prod.mk.injEq] at H
    obtain ⟨rfl, rfl⟩ := H
    go_enter Try.func75, Try.ntmps75
    try go_wp2
    replace HB := am (below_drew1 HB.out)
    obtain ⟨i08, hi08, _, hsz8, _⟩ := info_parts info3
    obtain ⟨hcut8, hA8, hC8⟩ := print_take_of (P := Try.prog) (Value.int .i64) 0 22 3 .i64 Try.underlying22 hi08 hsz8 A0 c0 l0 (ji2) (ofd (by assumption)) (ofd (by assumption)) HC0.out
    have HR337 := am (Kd.C_of_reads (h1 := fun _ => rfl) (hA8 _ (Kd.reads_of_C HR0.out)))
    have HC337 := am hC8
    clear hA8 hC8 hi08 hsz8
    have p341 : 0 ≤ ((ji2) : Int) := ofd (by assumption)
    have q341 : (ji2) < (l0.length : Int) := ofd (by assumption)
    obtain ⟨ad341, e341, hx341_0⟩ := Kd.at_int HR0.out (ji2) p341 q341
    have hw341_0 := hx341_0
    cases e341
    replace hx341_0 := (HB.out.cell (World.block_lt_of_cell? w _ hx341_0)).trans hx341_0
    replace p341 := eq_true p341
    replace q341 := eq_true q341
    refine start_ (n := 10) (S := fun w' => w'.cell? (ad341.add ((ji2)).toNat) = some (.int .i64 (rd l0 (ji2)))) (ds := []) #[false, false, false, false, false, false, false, false, false, false] (by kernel_rfl) rfl rfl (((HB.out.cell (World.block_lt_of_cell? w _ hw341_0)).trans hw341_0)) (fun hHeld => ?_); refine with_tabW impl_last.tab2 impl_last.bits2 (fun HT_ HW_ => ?_)
    generalize w.drew = w7 at HB HR337 hx341_0 hHeld ⊢
    refine pure_ (i := 0) (N := some 8) (v := ?_) (a' := ?_) #[true, false, false, false, false, false, false, false, false, false] rfl rfl (any_of HT_.out (by kernel_rfl)) (fun _ _ _ h => h) (Or.inl ⟨by rfl, ?_⟩) ?_ ?_
    rotate_left
    ·intro w'
     go_simp
     with_reducible rfl
    rotate_left
    ·simp only [Act.put, sI, s0_, s1_, i64_w, i32_w]
     rfl
    refine pure_ (i := 1) (N := some 9) (v := ?_) (a' := ?_) #[true, true, false, false, false, false, false, false, false, false] rfl rfl (any_of HT_.out (by kernel_rfl)) (fun _ _ _ h => h) (Or.inl ⟨by rfl, ?_⟩) ?_ ?_
    rotate_left
    ·intro w'
     go_simp
     with_reducible rfl
    rotate_left
    ·simp only [Act.put, sI, s0_, s1_, i64_w, i32_w]
     rfl
    refine pure_ (i := 2) (N := some 10) (v := ?_) (a' := ?_) #[true, true, true, false, false, false, false, false, false, false] rfl rfl (any_of HT_.out (by kernel_rfl)) (fun _ _ _ h => h) (Or.inl ⟨by rfl, ?_⟩) ?_ ?_
    rotate_left
    ·intro w'
     go_simp
     with_reducible rfl
    rotate_left
    ·simp only [Act.put, sI, s0_, s1_, i64_w, i32_w]
     rfl
    refine pure_ (i := 4) (N := some 12) (v := ?_) (a' := ?_) #[true, true, true, false, true, false, false, false, false, false] rfl rfl (any_of HT_.out (by kernel_rfl)) (fun _ _ _ h => h) (Or.inl ⟨by rfl, ?_⟩) ?_ ?_
    rotate_left
    ·intro w'
     go_simp
     with_reducible rfl
    rotate_left
    ·simp only [Act.put, sI, s0_, s1_, i64_w, i32_w]
     rfl
    refine pure_ (i := 5) (N := some 13) (v := ?_) (a' := ?_) #[true, true, true, false, true, true, false, false, false, false] rfl rfl (any_of HT_.out (by kernel_rfl)) (fun _ _ _ h => h) (Or.inl ⟨by rfl, ?_⟩) ?_ ?_
    rotate_left
    ·intro w'
     go_simp
     with_reducible rfl
    rotate_left
    ·simp only [Act.put, sI, s0_, s1_, i64_w, i32_w]
     rfl
    refine pure_ (i := 6) (N := some 14) (v := ?_) (a' := ?_) #[true, true, true, false, true, true, true, false, false, false] rfl rfl (any_of HT_.out (by kernel_rfl)) (fun _ _ _ h => h) (Or.inl ⟨by rfl, ?_⟩) ?_ ?_
    rotate_left
    ·intro w'
     go_simp
     with_reducible rfl
    rotate_left
    ·simp only [Act.put, sI, s0_, s1_, i64_w, i32_w]
     rfl
    refine take_ (i := 7) (N := some 15) (v := ?_) (a' := ?_) #[true, true, true, false, true, true, true, true, false, false] rfl rfl (take_ofW HT_.out HW_.out (by kernel_rfl)) (fun _ _ _ h => h) (Or.inl ⟨by rfl, ?_⟩) hHeld ?_ ?_
    rotate_left
    ·intro w' s0
     go_simp
     with_reducible rfl
    rotate_left
    ·simp only [Act.put, sI, s0_, s1_, i64_w, i32_w]
     rfl
    refine one_ (i := 3) (N := some 11) #[true, true, true, true, true, true, true, true, false, false] rfl rfl (one_of HT_.out (by kernel_rfl)) (by decide) (fun K hK => ?_)
    refine goes_ Try.func40 (by kernel_rfl) rfl #[.slice (some ad341) (l0.take ((ji2) : Int).toNat).length c0] (by rfl) rfl rfl (by (try simp only [mT, mC, mZ]); first | done | (rw [show (l0.take ((ji2) : Int).toNat).length = (ji2).toNat from (by rw [List.length_take]; have h_ : ((ji2) : Int) ≤ (l0.length : Int) := ofd (by assumption); omega)] <;> rfl) | (simp only [hji2]; rfl) | rfl | (simp only [List.length_drop, List.length_take]; rfl)) ?_
    with_reducible refine (slices_Clone_int_int.calls _ _ (l0.take ((ji2) : Int).toNat) t338 _ ?side1 ?side2 A5.out).mono ?_
    (case side1 => repeat (first | exact (Kd.C_below HR337.out HB.out) | (with_reducible first | apply cA | apply cN | apply cD)))
    (case side2 => exact HC337.out)
    rintro e w9 ⟨v339, rfl, ho0, hb⟩
    refine ⟨_, rfl, ?_⟩
    have HO340 := am (Kd.R_lower ho0 (below_size (by repeat (with_reducible first | exact HB.out | apply bA | apply bN | apply bD))))
    replace HB := am (below_step (by repeat (with_reducible first | exact HB.out | apply bA | apply bN | apply bD)) hb)
    (try clear hb)
    (try clear hb2)
    (try clear hk)
    (try clear hi)
    (try clear ho0)
    refine hK.out _ _ (((HB.out.cell (World.block_lt_of_cell? w _ hw341_0)).trans hw341_0)) (fun hHeld => ?_)
    clear hK K
    refine norm_ (a' := ?_) ?_ ?_
    rotate_left
    ·show Act.put _ (some 11) _ = _
     simp only [Act.put, sI, s0_, s1_, i64_w, i32_w]
     rfl
    refine pure_ (i := 8) (N := some 2) (v := ?_) (a' := ?_) #[true, true, true, true, true, true, true, true, true, false] rfl rfl (any_of HT_.out (by kernel_rfl)) (fun _ _ _ h => h) (Or.inl ⟨by rfl, ?_⟩) ?_ ?_
    rotate_left
    ·intro w'
     go_simp
     with_reducible rfl
    rotate_left
    ·simp only [Act.put, sI, s0_, s1_, i64_w, i32_w]
     rfl
    refine pure_ (i := 9) (N := some 3) (v := ?_) (a' := ?_) #[true, true, true, true, true, true, true, true, true, true] rfl rfl (any_of HT_.out (by kernel_rfl)) (fun _ _ _ h => h) (Or.inl ⟨by rfl, ?_⟩) ?_ ?_
    rotate_left
    ·intro w'
     go_simp
     with_reducible rfl
    rotate_left
    ·simp only [Act.put, sI, s0_, s1_, i64_w, i32_w]
     rfl
    refine done_ (done_of HT_.out (by kernel_rfl)) ?_
    try go_wp2
    go_ret2
    exact ⟨_, by first | rfl | (simp [errW_none, errW_some] <;> rfl) | (simp only [← hji2]; first | rfl | (simp [errW_none, errW_some] <;> rfl)) | (simp [*, errW_none, errW_some] <;> rfl), by (with_reducible repeat (first | apply rA | apply rN | apply rD)); exact HO340.out, by repeat (with_reducible first | exact HB.out | apply bA | apply bN | apply bD)⟩
   ·rw [if_neg c6] at H
    exact absurd H (by simp)
  ·rw [if_neg c4] at H
   exact absurd H (by simp)
 ·rw [if_neg c3] at H
  exact absurd H (by simp)
end Go.Proofs.Ytlbaldejaapbiaa.QFnExactStatesAfter
