-- Written by wip/myprint.py (a program of mine round the kit's printer). Lean checks it.
import Derived.Test.YtpepnlcelllhkaaQFnExactMeanderWithx0
import Derived.Test.YtpepnlcelllhkaaQFnExactMeanderWithx3
import Derived.Test.YtpepnlcelllhkaaQFnExactMeanderWithx7
import Derived.Test.YtpepnlcelllhkaaQFnExactMeanderWithx8
namespace Go.Proofs.Ytpepnlcelllhkaa.QFnExactMeanderWith
open Go.RowKit Go.Proofs.YtpepnlcelllhkaaW.PrintWords Go.Proofs.YtpepnlcelllhkaaW.PrintLast Go.Proofs.YtpepnlcelllhkaaW.PrintMore
attribute [local go_sem] max2_int min2_int max_two min_two max_three min_three max_four min_four   -- for this text's walks alone
set_option linter.unusedVariables false
set_option linter.unusedSimpArgs false

/-! ### laws_FnExactMeanderWith: function 11 -/
mutual
def laws_FnExactMeanderWith.j0 : Nat → Int → Int → Bool → Bool → List Int → List Int → List Int → List Int → Option (Bool)
  | 0, _, _, _, _, _, _, _, _ => none
  | k + 1, x0, x1, x6, x33, x335000, x335001, x343000, x343001 => if x33 = true then (some false) else ((laws_markMeander.f k x343000 x343001 1).bind fun bt344 => ((laws_heldMeander.f k bt344.2.1 bt344.2.2 1).bind fun t347 => (if t347 < 0 then (some false) else (if t347 = bt344.1 then ((impl_MeanderWith.f k x0 x1).bind fun bt348 => ((laws_eqMeander.f k bt348.1 bt348.2.1 x335000 x335001).bind fun t356 => (if t356 = true then (laws_FnExactMeanderWith.j1 k bt344.1 (bt348.2.2 != x6) bt344.2.1 bt344.2.2) else (laws_FnExactMeanderWith.j1 k bt344.1 true bt344.2.1 bt344.2.2)))) else (some false)))))
def laws_FnExactMeanderWith.j1 : Nat → Int → Bool → List Int → List Int → Option (Bool)
  | 0, _, _, _, _ => none
  | k + 1, x9, x59, x343000, x343001 => if x59 = true then (some false) else ((laws_heldMeander.f k x343000 x343001 1).bind fun t357 => (if t357 < 0 then (some false) else (if t357 = x9 then (some true) else (some false))))
end
def laws_FnExactMeanderWith.f (k : Nat) (a0 : Int) (a1 : Int) : Option (Bool) := (spec_MeanderWith.f k a0 a1).bind fun bt327 => ((impl_MeanderWith.f k a0 a1).bind fun bt335 => ((laws_eqMeander.f k bt335.1 bt335.2.1 bt327.1 bt327.2.1).bind fun t343 => (if t343 = true then (laws_FnExactMeanderWith.j0 k a0 a1 bt327.2.2 (bt335.2.2 != bt327.2.2) bt327.1 bt327.2.1 bt335.1 bt335.2.1) else (laws_FnExactMeanderWith.j0 k a0 a1 bt327.2.2 true bt327.1 bt327.2.1 bt335.1 bt335.2.1))))
theorem laws_FnExactMeanderWith.mono_l : ∀ k, (∀ y0 y1 y2 y3 y4 y5 y6 y7, LeO (laws_FnExactMeanderWith.j0 k y0 y1 y2 y3 y4 y5 y6 y7) (laws_FnExactMeanderWith.j0 (k + 1) y0 y1 y2 y3 y4 y5 y6 y7)) ∧ (∀ y0 y1 y2 y3, LeO (laws_FnExactMeanderWith.j1 k y0 y1 y2 y3) (laws_FnExactMeanderWith.j1 (k + 1) y0 y1 y2 y3))
  | 0 => ⟨fun _ _ _ _ _ _ _ _ r h => by simp [laws_FnExactMeanderWith.j0] at h, fun _ _ _ _ r h => by simp [laws_FnExactMeanderWith.j1] at h⟩
  | k + 1 => by
    obtain ⟨ih0, ih1⟩ := laws_FnExactMeanderWith.mono_l k
    refine ⟨?_, ?_⟩
    · intro y0 y1 y2 y3 y4 y5 y6 y7
      unfold laws_FnExactMeanderWith.j0
      repeat' first
      | (with_reducible exact ih0 _ _ _ _ _ _ _ _)
      | (with_reducible exact ih1 _ _ _ _)
      | (with_reducible exact impl_MeanderWith.mono _ _ _)
      | (with_reducible exact laws_eqMeander.mono _ _ _ _ _)
      | (with_reducible exact laws_heldMeander.mono _ _ _ _)
      | (with_reducible exact laws_markMeander.mono _ _ _ _)
      | (with_reducible exact spec_MeanderWith.mono _ _ _)
      | (with_reducible exact LeO.refl _)
      | (with_reducible exact LeO.none _)
      | (with_reducible refine LeO.ite ?_ ?_)
      | (with_reducible refine LeO.bind ?_ (fun _ => ?_))
      | exact ih0 _ _ _ _ _ _ _ _
      | exact ih1 _ _ _ _
      | exact impl_MeanderWith.mono _ _ _
      | exact laws_eqMeander.mono _ _ _ _ _
      | exact laws_heldMeander.mono _ _ _ _
      | exact laws_markMeander.mono _ _ _ _
      | exact spec_MeanderWith.mono _ _ _
      | exact LeO.none _
      | refine LeO.ite ?_ ?_
      | refine LeO.bind ?_ (fun _ => ?_)
    · intro y0 y1 y2 y3
      unfold laws_FnExactMeanderWith.j1
      repeat' first
      | (with_reducible exact ih0 _ _ _ _ _ _ _ _)
      | (with_reducible exact ih1 _ _ _ _)
      | (with_reducible exact impl_MeanderWith.mono _ _ _)
      | (with_reducible exact laws_eqMeander.mono _ _ _ _ _)
      | (with_reducible exact laws_heldMeander.mono _ _ _ _)
      | (with_reducible exact laws_markMeander.mono _ _ _ _)
      | (with_reducible exact spec_MeanderWith.mono _ _ _)
      | (with_reducible exact LeO.refl _)
      | (with_reducible exact LeO.none _)
      | (with_reducible refine LeO.ite ?_ ?_)
      | (with_reducible refine LeO.bind ?_ (fun _ => ?_))
      | exact ih0 _ _ _ _ _ _ _ _
      | exact ih1 _ _ _ _
      | exact impl_MeanderWith.mono _ _ _
      | exact laws_eqMeander.mono _ _ _ _ _
      | exact laws_heldMeander.mono _ _ _ _
      | exact laws_markMeander.mono _ _ _ _
      | exact spec_MeanderWith.mono _ _ _
      | exact LeO.none _
      | refine LeO.ite ?_ ?_
      | refine LeO.bind ?_ (fun _ => ?_)
theorem laws_FnExactMeanderWith.mono : ∀ a0 a1 k, LeO (laws_FnExactMeanderWith.f k a0 a1) (laws_FnExactMeanderWith.f (k + 1) a0 a1) := by
  intro a0 a1 k
  obtain ⟨ih0, ih1⟩ := laws_FnExactMeanderWith.mono_l k
  unfold laws_FnExactMeanderWith.f
  repeat' first
      | (with_reducible exact ih0 _ _ _ _ _ _ _ _)
      | (with_reducible exact ih1 _ _ _ _)
      | (with_reducible exact impl_MeanderWith.mono _ _ _)
      | (with_reducible exact laws_eqMeander.mono _ _ _ _ _)
      | (with_reducible exact laws_heldMeander.mono _ _ _ _)
      | (with_reducible exact laws_markMeander.mono _ _ _ _)
      | (with_reducible exact spec_MeanderWith.mono _ _ _)
      | (with_reducible exact LeO.refl _)
      | (with_reducible exact LeO.none _)
      | (with_reducible refine LeO.ite ?_ ?_)
      | (with_reducible refine LeO.bind ?_ (fun _ => ?_))
      | exact ih0 _ _ _ _ _ _ _ _
      | exact ih1 _ _ _ _
      | exact impl_MeanderWith.mono _ _ _
      | exact laws_eqMeander.mono _ _ _ _ _
      | exact laws_heldMeander.mono _ _ _ _
      | exact laws_markMeander.mono _ _ _ _
      | exact spec_MeanderWith.mono _ _ _
      | exact LeO.none _
      | refine LeO.ite ?_ ?_
      | refine LeO.bind ?_ (fun _ => ?_)
theorem laws_FnExactMeanderWith.j0_no : ∀ k y0 y1 y2 y3 y4 y5 y6, ¬ laws_FnExactMeanderWith.j0 k y0 y1 y2 true y3 y4 y5 y6 = some true
  | 0, _, _, _, _, _, _, _ => by simp [laws_FnExactMeanderWith.j0]
  | k + 1, _, _, _, _, _, _, _ => by simp [laws_FnExactMeanderWith.j0]
theorem laws_FnExactMeanderWith.j1_no : ∀ k y0 y1 y2, ¬ laws_FnExactMeanderWith.j1 k y0 true y1 y2 = some true
  | 0, _, _, _ => by simp [laws_FnExactMeanderWith.j1]
  | k + 1, _, _, _ => by simp [laws_FnExactMeanderWith.j1]
set_option maxHeartbeats 8000000 in
set_option maxRecDepth 100000 in
theorem laws_FnExactMeanderWith.calls (k : Nat) (a0 : Int) (a1 : Int) (r : Bool) (w : World) (hr_ : r = true) (h : laws_FnExactMeanderWith.f k a0 a1 = some r) :
    Calls Try.prog 11 #[.int .i64 a0, .int .i64 a1] w fun e w' => e = .returned (.bool r) ∧ Below w.heap.size w w' := by
  have hu44 := Try.underlying44
  have HB := Aside0.mk (Below.refl w.heap.size w)
  have H : ((spec_MeanderWith.f k a0 a1).bind fun bt327 => ((impl_MeanderWith.f k a0 a1).bind fun bt335 => ((laws_eqMeander.f k bt335.1 bt335.2.1 bt327.1 bt327.2.1).bind fun t343 => (if t343 = true then (laws_FnExactMeanderWith.j0 k a0 a1 bt327.2.2 (bt335.2.2 != bt327.2.2) bt327.1 bt327.2.1 bt335.1 bt335.2.1) else (laws_FnExactMeanderWith.j0 k a0 a1 bt327.2.2 true bt327.1 bt327.2.1 bt335.1 bt335.2.1))))) = some r := h
  clear h
  replace H := Option.bind_eq_some_iff.mp H
  obtain ⟨⟨t327, t330, t333⟩, A30, H⟩ := H
  replace H : ((impl_MeanderWith.f k a0 a1).bind fun bt335 => ((laws_eqMeander.f k bt335.1 bt335.2.1 t327 t330).bind fun t343 => (if t343 = true then (laws_FnExactMeanderWith.j0 k a0 a1 t333 (bt335.2.2 != t333) t327 t330 bt335.1 bt335.2.1) else (laws_FnExactMeanderWith.j0 k a0 a1 t333 true t327 t330 bt335.1 bt335.2.1)))) = some r := H
  have A3 := Aside0.mk A30
  clear A30
  replace H := Option.bind_eq_some_iff.mp H
  obtain ⟨⟨t335, t338, t341⟩, A40, H⟩ := H
  replace H : ((laws_eqMeander.f k t335 t338 t327 t330).bind fun t343 => (if t343 = true then (laws_FnExactMeanderWith.j0 k a0 a1 t333 (t341 != t333) t327 t330 t335 t338) else (laws_FnExactMeanderWith.j0 k a0 a1 t333 true t327 t330 t335 t338))) = some r := H
  have A4 := Aside0.mk A40
  clear A40
  have HC5 := Aside0.mk H
  clear H
  go_enter Try.func11, Try.ntmps11
  go_upto_region 3 with (first | ((with_reducible refine gate_callee (f := 38) rfl ?_); refine goesL_ (some 16) rfl rfl Try.func38 (by kernel_rfl) rfl #[.int .i64 a0, .int .i64 a1] rfl (by (try simp only [List.map_toArray, List.map_cons, List.map_nil]); first | done | rfl | (simp only [List.length_drop, List.length_take]; rfl)) ?_; (with_reducible refine (spec_MeanderWith.calls k a0 a1 t327 t330 t333 _ A3.out).mono ?_); rintro e w6 ⟨v328, v331, rfl, ho0, ho1, hb⟩; refine ⟨_, rfl, ?_⟩; have n0_ := Aside0.mk (Kd.V_lower (Kd.V_mono (ok' := fun k_ => True) ho0 (fun k_ hk_ => trivial)) (below_size (by repeat (first | exact HB.out | apply below_alloc | apply pw_below_drewN | apply below_drew1)))); have n1_ := Aside0.mk (Kd.V_lower (Kd.V_mono (ok' := fun k_ => True) ho1 (fun k_ hk_ => trivial)) (below_size (by repeat (first | exact HB.out | apply below_alloc | apply pw_below_drewN | apply below_drew1)))); have n2_ := Aside0.mk (below_step (by repeat (first | exact HB.out | apply below_alloc | apply pw_below_drewN | apply below_drew1)) hb); clear HB; have HO329 := n0_; have HO332 := n1_; have HB := n2_; clear n0_ n1_ n2_; (try clear hb); (try clear hb2); (try clear hk); (try clear hi); (try clear ho0); (try clear ho1)) | ((with_reducible refine gate_dst (N := 5) rfl ?_); refine box_event ?hg (N := 5) ?hd (cs := #[.slice none 0 0, .slice none 0 0]) (t := 44) ?hr ?_; (case hd => rfl); (case hg => rfl); (case hr => first | (go_simp; done) | (go_simp; rfl)); intro gb334 hg w7 hbox hb; have n0_ := Aside0.mk (Kd.V_below (Kd.V_elderB (by (with_reducible repeat (first | apply Kd.V_alloc | apply Kd.V_drewN | apply Kd.V_drew)); exact HO329.out) gb334 (Nat.le_of_eq hg.symm)) hb); have n1_ := Aside0.mk (Kd.V_below (Kd.V_elderB (by (with_reducible repeat (first | apply Kd.V_alloc | apply Kd.V_drewN | apply Kd.V_drew)); exact HO332.out) gb334 (Nat.le_of_eq hg.symm)) hb); have n2_ := Aside0.mk (below_step (by repeat (first | exact HB.out | apply below_alloc | apply pw_below_drewN | apply below_drew1)) hb); have n3_ := Aside0.mk (hbox); have n4_ := Aside0.mk ((by rw [hg]; exact (below_size (by repeat (first | exact HB.out | apply below_alloc | apply pw_below_drewN | apply below_drew1))) : w.heap.size ≤ gb334)); have n5_ := Aside0.mk ((by rw [hg]; exact (below_size (by repeat (first | exact HB.out | apply below_alloc | apply pw_below_drewN | apply below_drew1))) : w.heap.size ≤ gb334)); clear HO329; clear HO332; clear HB; have HO329 := n0_; have HO332 := n1_; have HB := n2_; have BK334 := n3_; have GW334 := n4_; have GE334 := n5_; clear n0_ n1_ n2_ n3_ n4_ n5_; clear hb hbox hg; obtain ⟨Ao8, co8, eo8⟩ := Kd.V_slice HO329.out; subst eo8; have hcz9_0 : w7.cell? ⟨gb334, 0, none⟩ = some (.slice none 0 0) := (blk_cell BK334.out 0).trans rfl; have hcz9_1 : w7.cell? ⟨gb334, 1, none⟩ = some (.slice none 0 0) := (blk_cell BK334.out 1).trans rfl; have hfz9_0 := blk_frozen BK334.out 0; have hfz9_1 := blk_frozen BK334.out 1; obtain ⟨Ao10, co10, eo10⟩ := Kd.V_slice HO332.out; subst eo10) | ((with_reducible refine gate_callee (f := 39) rfl ?_); refine goesL_ (some 22) rfl rfl Try.func39 (by kernel_rfl) rfl #[.int .i64 a0, .int .i64 a1] rfl (by (try simp only [List.map_toArray, List.map_cons, List.map_nil]); first | done | rfl | (simp only [List.length_drop, List.length_take]; rfl)) ?_; (with_reducible refine (impl_MeanderWith.calls k a0 a1 t335 t338 t341 _ A4.out).mono ?_); rintro e w11 ⟨v336, v339, rfl, ho0, ho1, hb⟩; refine ⟨_, rfl, ?_⟩; have n0_ := Aside0.mk (Kd.V_mono (Kd.V_told (Kd.V_told (Kd.V_old (by (with_reducible repeat (first | apply Kd.V_alloc | apply Kd.V_drewN | apply Kd.V_drew)); exact (Kd.V_mono (Kd.V_far (p := ⟨gb334, 1, none⟩) (Kd.V_far (p := ⟨gb334, 0, none⟩) (Kd.V_mono HO329.out (fun k_ hk => (⟨hk, hk.2⟩ : _ ∧ k_ ≠ gb334))) (fun _ hk => hk.2) (.slice Ao8 t327.length co8)) (fun _ hk => hk.2) (.slice Ao10 t330.length co10)) (fun _ h_ => h_.1))) hb) (Kd.R_base ho0)) (Kd.R_base ho1)) (fun _ h_ => h_.1)); have n1_ := Aside0.mk (Kd.V_mono (Kd.V_told (Kd.V_told (Kd.V_old (by (with_reducible repeat (first | apply Kd.V_alloc | apply Kd.V_drewN | apply Kd.V_drew)); exact (Kd.V_mono (Kd.V_far (p := ⟨gb334, 1, none⟩) (Kd.V_far (p := ⟨gb334, 0, none⟩) (Kd.V_mono HO332.out (fun k_ hk => (⟨hk, hk.2⟩ : _ ∧ k_ ≠ gb334))) (fun _ hk => hk.2) (.slice Ao8 t327.length co8)) (fun _ hk => hk.2) (.slice Ao10 t330.length co10)) (fun _ h_ => h_.1))) hb) (Kd.R_base ho0)) (Kd.R_base ho1)) (fun _ h_ => h_.1)); have n2_ := Aside0.mk (Kd.R_lower ho0 (below_size (by repeat (first | (with_reducible first | exact HB.out | apply below_alloc | apply pw_below_drewN | apply below_drew1 | refine below_set ?_ GE334.out) | exact HB.out)))); have n3_ := Aside0.mk (Kd.R_lower ho1 (below_size (by repeat (first | (with_reducible first | exact HB.out | apply below_alloc | apply pw_below_drewN | apply below_drew1 | refine below_set ?_ GE334.out) | exact HB.out)))); have n4_ := Aside0.mk (blk_below (g := gb334) (o := .cells #[.slice Ao8 t327.length co8, .slice Ao10 t330.length co10] 44 (0, 0)) (by (with_reducible repeat (first | refine blk_drewN ?_ _ | refine blk_drew ?_ | refine blk_alloc ?_ _)); refine blk_put (cs := #[.slice Ao8 t327.length co8, .slice none 0 0]) ?_ 1 _ rfl; (with_reducible repeat (first | refine blk_drewN ?_ _ | refine blk_drew ?_ | refine blk_alloc ?_ _)); refine blk_put (cs := #[.slice none 0 0, .slice none 0 0]) ?_ 0 _ rfl; (with_reducible repeat (first | refine blk_drewN ?_ _ | refine blk_drew ?_ | refine blk_alloc ?_ _)); exact BK334.out) hb); have n5_ := Aside0.mk (below_step (by repeat (first | (with_reducible first | exact HB.out | apply below_alloc | apply pw_below_drewN | apply below_drew1 | refine below_set ?_ GE334.out) | exact HB.out)) hb); clear HO329; clear HO332; clear BK334; clear HB; have HO329 := n0_; have HO332 := n1_; have HO337 := n2_; have HO340 := n3_; have BK334 := n4_; have HB := n5_; clear n0_ n1_ n2_ n3_ n4_ n5_; (try clear hb); (try clear hb2); (try clear hk); (try clear hi); (try clear ho0); (try clear ho1)) | ((with_reducible refine gate_dst (N := 7) rfl ?_); refine box_event ?hg (N := 7) ?hd (cs := #[.slice none 0 0, .slice none 0 0]) (t := 44) ?hr ?_; (case hd => rfl); (case hg => rfl); (case hr => first | (go_simp; done) | (go_simp; rfl)); intro gb342 hg w12 hbox hb; have n0_ := Aside0.mk (Kd.V_below (Kd.V_elderB (by (with_reducible repeat (first | apply Kd.V_alloc | apply Kd.V_drewN | apply Kd.V_drew)); exact HO329.out) gb342 (Nat.le_of_eq hg.symm)) hb); have n1_ := Aside0.mk (Kd.V_below (Kd.V_elderB (by (with_reducible repeat (first | apply Kd.V_alloc | apply Kd.V_drewN | apply Kd.V_drew)); exact HO332.out) gb342 (Nat.le_of_eq hg.symm)) hb); have n2_ := Aside0.mk (Kd.R_below (by (with_reducible repeat (first | apply Kd.R_alloc | apply Kd.R_drewN | apply Kd.R_drew)); exact HO337.out) hb); have n3_ := Aside0.mk (Kd.R_below (by (with_reducible repeat (first | apply Kd.R_alloc | apply Kd.R_drewN | apply Kd.R_drew)); exact HO340.out) hb); have n4_ := Aside0.mk (blk_below (g := gb334) (o := .cells #[.slice Ao8 t327.length co8, .slice Ao10 t330.length co10] 44 (0, 0)) (by (with_reducible repeat (first | refine blk_drewN ?_ _ | refine blk_drew ?_ | refine blk_alloc ?_ _)); exact BK334.out) hb); have n5_ := Aside0.mk (below_step (by repeat (first | (with_reducible first | exact HB.out | apply below_alloc | apply pw_below_drewN | apply below_drew1 | refine below_set ?_ GE334.out) | exact HB.out)) hb); have n6_ := Aside0.mk (hbox); have n7_ := Aside0.mk ((by rw [hg]; exact (below_size (by repeat (first | (with_reducible first | exact HB.out | apply below_alloc | apply pw_below_drewN | apply below_drew1 | refine below_set ?_ GE334.out) | exact HB.out))) : w.heap.size ≤ gb342)); have n8_ := Aside0.mk ((by rw [hg]; exact (below_size (by repeat (first | (with_reducible first | exact HB.out | apply below_alloc | apply pw_below_drewN | apply below_drew1 | refine below_set ?_ GE334.out) | exact HB.out))) : w.heap.size ≤ gb342)); have n9_ := Aside0.mk ((by rw [hg]; exact Nat.ne_of_lt (blk_lt (g := gb334) (o := .cells #[.slice Ao8 t327.length co8, .slice Ao10 t330.length co10] 44 (0, 0)) (by (with_reducible repeat (first | refine blk_drewN ?_ _ | refine blk_drew ?_ | refine blk_alloc ?_ _)); exact BK334.out)) : gb334 ≠ gb342)); have n10_ := Aside0.mk ((by rw [hg]; exact Nat.ne_of_gt (blk_lt (g := gb334) (o := .cells #[.slice Ao8 t327.length co8, .slice Ao10 t330.length co10] 44 (0, 0)) (by (with_reducible repeat (first | refine blk_drewN ?_ _ | refine blk_drew ?_ | refine blk_alloc ?_ _)); exact BK334.out)) : gb342 ≠ gb334)); clear HO329; clear HO332; clear HO337; clear HO340; clear BK334; clear HB; have HO329 := n0_; have HO332 := n1_; have HO337 := n2_; have HO340 := n3_; have BK334 := n4_; have HB := n5_; have BK342 := n6_; have GW342 := n7_; have GE342 := n8_; have NB334_342 := n9_; have NB342_334 := n10_; clear n0_ n1_ n2_ n3_ n4_ n5_ n6_ n7_ n8_ n9_ n10_; clear hb hbox hg; obtain ⟨Ao13, co13, eo13⟩ := Kd.R_slice HO337.out; subst eo13; have hnb14 := NB342_334.out; have hnc14 := NB334_342.out; have hcz15_0 : w12.cell? ⟨gb342, 0, none⟩ = some (.slice none 0 0) := (blk_cell BK342.out 0).trans rfl; have hcz15_1 : w12.cell? ⟨gb342, 1, none⟩ = some (.slice none 0 0) := (blk_cell BK342.out 1).trans rfl; have hfz15_0 := blk_frozen BK342.out 0; have hfz15_1 := blk_frozen BK342.out 1; obtain ⟨Ao16, co16, eo16⟩ := Kd.R_slice HO340.out; subst eo16))
  (try simp only [Act.put, List.setIfInBounds_toArray, List.set_cons_zero, List.set_cons_succ])
  go_cut [33] (fun v33 wc => ∃ (kq : Nat) (x33_4 : Bool), v33 = .bool x33_4 ∧ Aside0 (laws_FnExactMeanderWith.j0 kq a0 a1 t333 x33_4 t327 t330 t335 t338 = some r) ∧ Aside0 (kq ≤ k) ∧ Aside0 (Kd.V (Kd.int .i64) 3 wc w.heap.size (fun k_ => some k_ ≠ ((.slice Ao13 t335.length co13) : Value).ownBlock ∧ some k_ ≠ ((.slice Ao16 t338.length co16) : Value).ownBlock ∧ k_ ≠ gb334 ∧ k_ ≠ gb342) (.slice Ao8 t327.length co8) t327) ∧ Aside0 (Kd.V (Kd.int .i64) 3 wc w.heap.size (fun k_ => some k_ ≠ ((.slice Ao13 t335.length co13) : Value).ownBlock ∧ some k_ ≠ ((.slice Ao16 t338.length co16) : Value).ownBlock ∧ k_ ≠ gb334 ∧ k_ ≠ gb342) (.slice Ao10 t330.length co10) t330) ∧ Aside0 (Kd.R (Kd.int .i64) 3 wc w.heap.size (fun k_ => some k_ ≠ ((.slice Ao16 t338.length co16) : Value).ownBlock) (.slice Ao13 t335.length co13) t335) ∧ Aside0 (Kd.R (Kd.int .i64) 3 wc w.heap.size (fun k_ => some k_ ≠ ((.slice Ao13 t335.length co13) : Value).ownBlock) (.slice Ao16 t338.length co16) t338) ∧ Aside0 (wc.heap[gb334]? = some (.cells #[(.slice Ao8 t327.length co8), (.slice Ao10 t330.length co10)] 44 (0, 0))) ∧ Aside0 (wc.heap[gb342]? = some (.cells #[(.slice Ao13 t335.length co13), (.slice Ao16 t338.length co16)] 44 (0, 0))) ∧ Aside0 (Below w.heap.size w wc))
  case first =>
    have H := HC5.out
    clear HC5
    replace H := Option.bind_eq_some_iff.mp H
    obtain ⟨t343, A170, H⟩ := H
    replace H : (if t343 = true then (laws_FnExactMeanderWith.j0 k a0 a1 t333 (t341 != t333) t327 t330 t335 t338) else (laws_FnExactMeanderWith.j0 k a0 a1 t333 true t327 t330 t335 t338)) = some r := H
    have A17 := Aside0.mk A170
    clear A170
    by_cases c18 : t343 = true
    · subst c18
      have H1 : (laws_FnExactMeanderWith.j0 k a0 a1 t333 (t341 != t333) t327 t330 t335 t338) = some r := by rw [if_pos rfl] at H; exact H
      clear H
      have H := H1
      clear H1
      have H' := Aside0.mk H
      clear H
      have hnb19 := NB342_334.out
      have hnc19 := NB334_342.out
      have hcz20_0 : w12.cell? ⟨gb342, 0, none⟩ = some (.slice none 0 0) := (blk_cell BK342.out 0).trans rfl
      have hcz20_1 : w12.cell? ⟨gb342, 1, none⟩ = some (.slice none 0 0) := (blk_cell BK342.out 1).trans rfl
      have hfz20_0 := blk_frozen BK342.out 0
      have hfz20_1 := blk_frozen BK342.out 1
      have hcz21_0 : w12.cell? ⟨gb334, 0, none⟩ = some (.slice Ao8 t327.length co8) := (blk_cell BK334.out 0).trans rfl
      have hcz21_1 : w12.cell? ⟨gb334, 1, none⟩ = some (.slice Ao10 t330.length co10) := (blk_cell BK334.out 1).trans rfl
      have hfz21_0 := blk_frozen BK334.out 0
      have hfz21_1 := blk_frozen BK334.out 1
      go_wp2_with (first | ((with_reducible refine gate_callee (f := 40) rfl ?_); refine goesL_ (some 27) rfl rfl Try.func40 (by kernel_rfl) rfl #[.agg #[.slice Ao13 t335.length co13, .slice Ao16 t338.length co16], .agg #[.slice Ao8 t327.length co8, .slice Ao10 t330.length co10]] rfl (by (try simp only [List.map_toArray, List.map_cons, List.map_nil]); first | done | rfl | (simp only [List.length_drop, List.length_take]; rfl)) ?_; (with_reducible refine (laws_eqMeander.calls k _ _ t335 _ _ t338 _ _ t327 _ _ t330 true _ ?side1 ?side2 ?side3 ?side4 ?side5 ?side6 ?side7 ?side8 A17.out).mono ?_); (case side1 => refine (Kd.R_reads' (e := 3) (base := w.heap.size) (ok := fun k_ => some k_ ≠ (.slice Ao16 t338.length co16 : Value).ownBlock) (n := t335.length) (c := co13) ?_).2.2; exact (by (with_reducible repeat (first | apply Kd.R_alloc | apply Kd.R_drewN | apply Kd.R_drew)); exact (Kd.R_mono (Kd.R_far (p := ⟨gb342, 1, none⟩) (Kd.R_far (p := ⟨gb342, 0, none⟩) (Kd.R_types HO337.out BK342.out (by decide)) (fun _ hk => hk.2) (.slice Ao13 t335.length co13)) (fun _ hk => hk.2) (.slice Ao16 t338.length co16)) (fun _ h_ => h_.1)))); (case side2 => exact (Kd.R_reads' HO337.out).2.1); (case side3 => refine (Kd.R_reads' (e := 3) (base := w.heap.size) (ok := fun k_ => some k_ ≠ (.slice Ao13 t335.length co13 : Value).ownBlock) (n := t338.length) (c := co16) ?_).2.2; exact (by (with_reducible repeat (first | apply Kd.R_alloc | apply Kd.R_drewN | apply Kd.R_drew)); exact (Kd.R_mono (Kd.R_far (p := ⟨gb342, 1, none⟩) (Kd.R_far (p := ⟨gb342, 0, none⟩) (Kd.R_types HO340.out BK342.out (by decide)) (fun _ hk => hk.2) (.slice Ao13 t335.length co13)) (fun _ hk => hk.2) (.slice Ao16 t338.length co16)) (fun _ h_ => h_.1)))); (case side4 => exact (Kd.R_reads' HO340.out).2.1); (case side5 => refine (Kd.V_reads' (e := 3) (base := w.heap.size) (ok := fun k_ => ((((True ∧ k_ ≠ gb334) ∧ some k_ ≠ (.slice Ao13 t335.length co13 : Value).ownBlock) ∧ some k_ ≠ (.slice Ao16 t338.length co16 : Value).ownBlock) ∧ k_ ≠ gb342)) (n := t327.length) (c := co8) ?_).2.2; exact (by (with_reducible repeat (first | apply Kd.V_alloc | apply Kd.V_drewN | apply Kd.V_drew)); exact (Kd.V_mono (Kd.V_far (p := ⟨gb342, 1, none⟩) (Kd.V_far (p := ⟨gb342, 0, none⟩) (Kd.V_mono HO329.out (fun k_ hk => (⟨hk, hk.2⟩ : _ ∧ k_ ≠ gb342))) (fun _ hk => hk.2) (.slice Ao13 t335.length co13)) (fun _ hk => hk.2) (.slice Ao16 t338.length co16)) (fun _ h_ => h_.1)))); (case side6 => exact (Kd.V_reads' HO329.out).2.1); (case side7 => refine (Kd.V_reads' (e := 3) (base := w.heap.size) (ok := fun k_ => ((((True ∧ k_ ≠ gb334) ∧ some k_ ≠ (.slice Ao13 t335.length co13 : Value).ownBlock) ∧ some k_ ≠ (.slice Ao16 t338.length co16 : Value).ownBlock) ∧ k_ ≠ gb342)) (n := t330.length) (c := co10) ?_).2.2; exact (by (with_reducible repeat (first | apply Kd.V_alloc | apply Kd.V_drewN | apply Kd.V_drew)); exact (Kd.V_mono (Kd.V_far (p := ⟨gb342, 1, none⟩) (Kd.V_far (p := ⟨gb342, 0, none⟩) (Kd.V_mono HO332.out (fun k_ hk => (⟨hk, hk.2⟩ : _ ∧ k_ ≠ gb342))) (fun _ hk => hk.2) (.slice Ao13 t335.length co13)) (fun _ hk => hk.2) (.slice Ao16 t338.length co16)) (fun _ h_ => h_.1)))); (case side8 => exact (Kd.V_reads' HO332.out).2.1); rintro e w22 ⟨rfl, hb⟩; refine ⟨_, rfl, ?_⟩; have n0_ := Aside0.mk (Kd.V_below (by (with_reducible repeat (first | apply Kd.V_alloc | apply Kd.V_drewN | apply Kd.V_drew)); exact (Kd.V_mono (Kd.V_far (p := ⟨gb342, 1, none⟩) (Kd.V_far (p := ⟨gb342, 0, none⟩) (Kd.V_mono HO329.out (fun k_ hk => (⟨hk, hk.2⟩ : _ ∧ k_ ≠ gb342))) (fun _ hk => hk.2) (.slice Ao13 t335.length co13)) (fun _ hk => hk.2) (.slice Ao16 t338.length co16)) (fun _ h_ => h_.1))) hb); have n1_ := Aside0.mk (Kd.V_below (by (with_reducible repeat (first | apply Kd.V_alloc | apply Kd.V_drewN | apply Kd.V_drew)); exact (Kd.V_mono (Kd.V_far (p := ⟨gb342, 1, none⟩) (Kd.V_far (p := ⟨gb342, 0, none⟩) (Kd.V_mono HO332.out (fun k_ hk => (⟨hk, hk.2⟩ : _ ∧ k_ ≠ gb342))) (fun _ hk => hk.2) (.slice Ao13 t335.length co13)) (fun _ hk => hk.2) (.slice Ao16 t338.length co16)) (fun _ h_ => h_.1))) hb); have n2_ := Aside0.mk (Kd.R_below (by (with_reducible repeat (first | apply Kd.R_alloc | apply Kd.R_drewN | apply Kd.R_drew)); exact (Kd.R_mono (Kd.R_far (p := ⟨gb342, 1, none⟩) (Kd.R_far (p := ⟨gb342, 0, none⟩) (Kd.R_types HO337.out BK342.out (by decide)) (fun _ hk => hk.2) (.slice Ao13 t335.length co13)) (fun _ hk => hk.2) (.slice Ao16 t338.length co16)) (fun _ h_ => h_.1))) hb); have n3_ := Aside0.mk (Kd.R_below (by (with_reducible repeat (first | apply Kd.R_alloc | apply Kd.R_drewN | apply Kd.R_drew)); exact (Kd.R_mono (Kd.R_far (p := ⟨gb342, 1, none⟩) (Kd.R_far (p := ⟨gb342, 0, none⟩) (Kd.R_types HO340.out BK342.out (by decide)) (fun _ hk => hk.2) (.slice Ao13 t335.length co13)) (fun _ hk => hk.2) (.slice Ao16 t338.length co16)) (fun _ h_ => h_.1))) hb); have n4_ := Aside0.mk (blk_below (g := gb334) (o := .cells #[.slice Ao8 t327.length co8, .slice Ao10 t330.length co10] 44 (0, 0)) (by (with_reducible repeat (first | refine blk_drewN ?_ _ | refine blk_drew ?_ | refine blk_alloc ?_ _)); refine blk_far ?_ NB334_342.out _; (with_reducible repeat (first | refine blk_drewN ?_ _ | refine blk_drew ?_ | refine blk_alloc ?_ _)); refine blk_far ?_ NB334_342.out _; (with_reducible repeat (first | refine blk_drewN ?_ _ | refine blk_drew ?_ | refine blk_alloc ?_ _)); exact BK334.out) hb); have n5_ := Aside0.mk (blk_below (g := gb342) (o := .cells #[.slice Ao13 t335.length co13, .slice Ao16 t338.length co16] 44 (0, 0)) (by (with_reducible repeat (first | refine blk_drewN ?_ _ | refine blk_drew ?_ | refine blk_alloc ?_ _)); refine blk_put (cs := #[.slice Ao13 t335.length co13, .slice none 0 0]) ?_ 1 _ rfl; (with_reducible repeat (first | refine blk_drewN ?_ _ | refine blk_drew ?_ | refine blk_alloc ?_ _)); refine blk_put (cs := #[.slice none 0 0, .slice none 0 0]) ?_ 0 _ rfl; (with_reducible repeat (first | refine blk_drewN ?_ _ | refine blk_drew ?_ | refine blk_alloc ?_ _)); exact BK342.out) hb); have n6_ := Aside0.mk (below_step (by repeat (first | (with_reducible first | exact HB.out | apply below_alloc | apply pw_below_drewN | apply below_drew1 | refine below_set ?_ GE334.out | refine below_set ?_ GE342.out) | exact HB.out)) hb); clear HO329; clear HO332; clear HO337; clear HO340; clear BK334; clear BK342; clear HB; have HO329 := n0_; have HO332 := n1_; have HO337 := n2_; have HO340 := n3_; have BK334 := n4_; have BK342 := n5_; have HB := n6_; clear n0_ n1_ n2_ n3_ n4_ n5_ n6_; (try clear hb); (try clear hb2); (try clear hk); (try clear hi)))
      go_meet
      case rel => exact ⟨_, ((t341 != t333)), (by first | rfl | (simp; done) | (simp [*]; done)), H', ⟨by first | omega | exact Nat.le_refl _⟩, ⟨by (with_reducible repeat (first | apply Kd.V_alloc | apply Kd.V_drewN | apply Kd.V_drew)); exact Kd.V_mono HO329.out (fun _ hk => ⟨hk.1.1.2, ⟨hk.1.2, ⟨hk.1.1.1.2, hk.2⟩⟩⟩)⟩, ⟨by (with_reducible repeat (first | apply Kd.V_alloc | apply Kd.V_drewN | apply Kd.V_drew)); exact Kd.V_mono HO332.out (fun _ hk => ⟨hk.1.1.2, ⟨hk.1.2, ⟨hk.1.1.1.2, hk.2⟩⟩⟩)⟩, ⟨by (with_reducible repeat (first | apply Kd.R_alloc | apply Kd.R_drewN | apply Kd.R_drew)); exact HO337.out⟩, ⟨by (with_reducible repeat (first | apply Kd.R_alloc | apply Kd.R_drewN | apply Kd.R_drew)); exact HO340.out⟩, ⟨by (with_reducible repeat (first | refine blk_drewN ?_ _ | refine blk_drew ?_ | refine blk_alloc ?_ _)); exact BK334.out⟩, ⟨by (with_reducible repeat (first | refine blk_drewN ?_ _ | refine blk_drew ?_ | refine blk_alloc ?_ _)); exact BK342.out⟩, ⟨by repeat (first | (with_reducible first | exact HB.out | apply below_alloc | apply pw_below_drewN | apply below_drew1 | refine below_set ?_ GE334.out | refine below_set ?_ GE342.out) | exact HB.out)⟩⟩
    · replace c18 := Bool.eq_false_iff.mpr c18
      subst c18
      have H1 : (laws_FnExactMeanderWith.j0 k a0 a1 t333 true t327 t330 t335 t338) = some r := by rw [if_neg (show ¬ (false = true) by decide)] at H; exact H
      rw [hr_] at H1; exact absurd H1 (laws_FnExactMeanderWith.j0_no _ _ _ _ _ _ _ _)
  case rest =>
    clear HC5
    try clear c1
    try clear c2
    try clear p2
    try clear c3
    try clear c4
    try clear c11
    try clear c14
    try clear c18
    try clear c19
    try clear c23
    try clear hcz15_0
    try clear hcz15_1
    try clear hcz20_0
    try clear hcz20_1
    try clear hcz21_0
    try clear hcz21_1
    try clear hcz24_0
    try clear hcz24_1
    try clear hcz25_0
    try clear hcz25_1
    try clear hcz9_0
    try clear hcz9_1
    try clear hfz15_0
    try clear hfz15_1
    try clear hfz20_0
    try clear hfz20_1
    try clear hfz21_0
    try clear hfz21_1
    try clear hfz24_0
    try clear hfz24_1
    try clear hfz25_0
    try clear hfz25_1
    try clear hfz9_0
    try clear hfz9_1
    obtain ⟨kq, x33_4, rfl, HA, HJ4, HO_335000, HO_335001, HO_343000, HO_343001, BK334, BK342, HB⟩ := hcut
    cases kq with
    | zero => exact absurd HA.out (by simp [laws_FnExactMeanderWith.j0])
    | succ kj4 =>
      have H := HA.out
      clear HA
      simp only [laws_FnExactMeanderWith.j0] at H
      by_cases c27 : x33_4 = true
      · subst c27
        have H1 : (some false) = some r := by rw [if_pos rfl] at H; exact H
        rw [hr_] at H1; exact absurd H1 (by decide)
      · replace c27 := Bool.eq_false_iff.mpr c27
        subst c27
        have H1 : ((laws_markMeander.f kj4 t335 t338 1).bind fun bt344 => ((laws_heldMeander.f kj4 bt344.2.1 bt344.2.2 1).bind fun t347 => (if t347 < 0 then (some false) else (if t347 = bt344.1 then ((impl_MeanderWith.f kj4 a0 a1).bind fun bt348 => ((laws_eqMeander.f kj4 bt348.1 bt348.2.1 t327 t330).bind fun t356 => (if t356 = true then (laws_FnExactMeanderWith.j1 kj4 bt344.1 (bt348.2.2 != t333) bt344.2.1 bt344.2.2) else (laws_FnExactMeanderWith.j1 kj4 bt344.1 true bt344.2.1 bt344.2.2)))) else (some false))))) = some r := by rw [if_neg (show ¬ (false = true) by decide)] at H; exact H
        clear H
        have H := H1
        clear H1
        replace H := Option.bind_eq_some_iff.mp H
        obtain ⟨⟨t344, t345, t346⟩, A280, H⟩ := H
        replace H : ((laws_heldMeander.f kj4 t345 t346 1).bind fun t347 => (if t347 < 0 then (some false) else (if t347 = t344 then ((impl_MeanderWith.f kj4 a0 a1).bind fun bt348 => ((laws_eqMeander.f kj4 bt348.1 bt348.2.1 t327 t330).bind fun t356 => (if t356 = true then (laws_FnExactMeanderWith.j1 kj4 t344 (bt348.2.2 != t333) t345 t346) else (laws_FnExactMeanderWith.j1 kj4 t344 true t345 t346)))) else (some false)))) = some r := H
        have A28 := Aside0.mk A280
        clear A280
        replace H := Option.bind_eq_some_iff.mp H
        obtain ⟨t347, A290, H⟩ := H
        replace H : (if t347 < 0 then (some false) else (if t347 = t344 then ((impl_MeanderWith.f kj4 a0 a1).bind fun bt348 => ((laws_eqMeander.f kj4 bt348.1 bt348.2.1 t327 t330).bind fun t356 => (if t356 = true then (laws_FnExactMeanderWith.j1 kj4 t344 (bt348.2.2 != t333) t345 t346) else (laws_FnExactMeanderWith.j1 kj4 t344 true t345 t346)))) else (some false))) = some r := H
        have A29 := Aside0.mk A290
        clear A290
        by_cases c30 : t347 < 0
        · rw [if_pos c30] at H
          have c30b0 : decide (t347 < 0) = true := decide_eq_true c30
          clear c30
          obtain rfl := Option.some.inj H
          have hnb31 := NB342_334.out
          have hnc31 := NB334_342.out
          have hcz32_0 : wc.cell? ⟨gb342, 0, none⟩ = some (.slice Ao13 t335.length co13) := (blk_cell BK342.out 0).trans rfl
          have hcz32_1 : wc.cell? ⟨gb342, 1, none⟩ = some (.slice Ao16 t338.length co16) := (blk_cell BK342.out 1).trans rfl
          have hfz32_0 := blk_frozen BK342.out 0
          have hfz32_1 := blk_frozen BK342.out 1
          go_wp2_with (first | ((with_reducible refine gate_callee (f := 41) rfl ?_); refine goesL_ (some 36) rfl rfl Try.func41 (by kernel_rfl) rfl #[.agg #[.slice Ao13 t335.length co13, .slice Ao16 t338.length co16], .int .i64 1] rfl (by (try simp only [List.map_toArray, List.map_cons, List.map_nil]); first | done | rfl | (simp only [List.length_drop, List.length_take]; rfl)) ?_; (with_reducible refine (laws_markMeander.calls kj4 (fun k_ => some k_ = (.slice Ao13 t335.length co13 : Value).ownBlock) (.slice Ao13 t335.length co13) t335 (fun k_ => some k_ = (.slice Ao16 t338.length co16 : Value).ownBlock) (.slice Ao16 t338.length co16) t338 1 t344 t345 t346 w _ ?side1 ?side2 ?side3 ?side4 ?side5 A28.out).mono ?_); (case side1 => repeat (first | (with_reducible first | exact HB.out | apply below_alloc | apply pw_below_drewN | apply below_drew1 | refine below_set ?_ GE334.out | refine below_set ?_ GE342.out) | exact HB.out)); (case side2 => exact Kd.R_tight rfl HO_343000.out); (case side3 => exact fun k_ e_ => (HO_343000.out.1 k_ e_.symm)); (case side4 => exact Kd.R_tight rfl HO_343001.out); (case side5 => exact fun k_ e_ => (HO_343001.out.1 k_ e_.symm)); rintro e w33 ⟨rfl, hy0, hy1, hb, hkp⟩; refine ⟨_, rfl, ?_⟩; have n0_ := Aside0.mk (Kd.V_mono (ok' := fun k_ => some k_ ≠ (.slice Ao13 t335.length co13 : Value).ownBlock ∧ some k_ ≠ (.slice Ao16 t338.length co16 : Value).ownBlock ∧ k_ ≠ gb334 ∧ k_ ≠ gb342) (Kd.V_keptB (HO_335000.out) hkp (fun k_ hk_ hs_ => Or.elim hs_ (fun e_ => (hk_.1) e_) (fun e_ => (hk_.2.1) e_))) (fun k_ hk_ => ⟨hk_.1.1, hk_.1.2.1, hk_.1.2.2.1, hk_.1.2.2.2⟩)); have n1_ := Aside0.mk (Kd.V_mono (ok' := fun k_ => some k_ ≠ (.slice Ao13 t335.length co13 : Value).ownBlock ∧ some k_ ≠ (.slice Ao16 t338.length co16 : Value).ownBlock ∧ k_ ≠ gb334 ∧ k_ ≠ gb342) (Kd.V_keptB (HO_335001.out) hkp (fun k_ hk_ hs_ => Or.elim hs_ (fun e_ => (hk_.1) e_) (fun e_ => (hk_.2.1) e_))) (fun k_ hk_ => ⟨hk_.1.1, hk_.1.2.1, hk_.1.2.2.1, hk_.1.2.2.2⟩)); have n2_ := Aside0.mk (Kd.R_reok rfl hy0 (fun k_ e_ => HO_343000.out.1 k_ e_)); have n3_ := Aside0.mk (Kd.R_reok rfl hy1 (fun k_ e_ => HO_343001.out.1 k_ e_)); have n4_ := Aside0.mk (blk_kept (by (with_reducible repeat (first | refine blk_drewN ?_ _ | refine blk_drew ?_ | refine blk_alloc ?_ _)); exact BK334.out) hkp (fun hs_ => Or.elim hs_ (fun e_ => (fun e_ => (Kd.R_ne HO_343000.out BK334.out (by decide)) e_) e_) (fun e_ => (fun e_ => (Kd.R_ne HO_343001.out BK334.out (by decide)) e_) e_))); have n5_ := Aside0.mk (blk_kept (by (with_reducible repeat (first | refine blk_drewN ?_ _ | refine blk_drew ?_ | refine blk_alloc ?_ _)); exact BK342.out) hkp (fun hs_ => Or.elim hs_ (fun e_ => (fun e_ => (Kd.R_ne HO_343000.out BK342.out (by decide)) e_) e_) (fun e_ => (fun e_ => (Kd.R_ne HO_343001.out BK342.out (by decide)) e_) e_))); have n6_ := Aside0.mk (hb); clear HO_335000; clear HO_335001; clear HO_343000; clear HO_343001; clear BK334; clear BK342; clear HB; have HO_335000 := n0_; have HO_335001 := n1_; have HO_343000 := n2_; have HO_343001 := n3_; have BK334 := n4_; have BK342 := n5_; have HB := n6_; clear n0_ n1_ n2_ n3_ n4_ n5_ n6_; (try clear hb); (try clear hkp); (try clear hy0); (try clear hy1); have hcz34_0 : w33.cell? ⟨gb342, 0, none⟩ = some (.slice Ao13 t335.length co13) := (blk_cell BK342.out 0).trans rfl; have hcz34_1 : w33.cell? ⟨gb342, 1, none⟩ = some (.slice Ao16 t338.length co16) := (blk_cell BK342.out 1).trans rfl; have hfz34_0 := blk_frozen BK342.out 0; have hfz34_1 := blk_frozen BK342.out 1) | ((with_reducible refine gate_callee (f := 42) rfl ?_); refine goesL_ (some 39) rfl rfl Try.func42 (by kernel_rfl) rfl #[.agg #[.slice Ao13 t345.length co13, .slice Ao16 t346.length co16], .int .i64 1] rfl (by (try simp only [List.map_toArray, List.map_cons, List.map_nil]); first | done | (rw [show t345.length = t335.length from (Kd.R_reads' HO_343000.out).1.symm, show t346.length = t338.length from (Kd.R_reads' HO_343001.out).1.symm] <;> rfl) | rfl | (simp only [List.length_drop, List.length_take]; rfl)) ?_; (with_reducible refine (laws_heldMeander.calls kj4 _ _ t345 _ _ t346 1 t347 _ ?side1 ?side2 ?side3 ?side4 A29.out).mono ?_); (case side1 => repeat (first | exact (Kd.R_reads' HO_343000.out).2.2 | (with_reducible refine Kd.C_alloc ?_ _) | (with_reducible refine Kd.C_drewN ?_ _) | (with_reducible refine Kd.C_drew ?_))); (case side2 => rw [show t345.length = t335.length from (Kd.R_reads' HO_343000.out).1.symm]; exact (Kd.R_reads' HO_343000.out).2.1); (case side3 => repeat (first | exact (Kd.R_reads' HO_343001.out).2.2 | (with_reducible refine Kd.C_alloc ?_ _) | (with_reducible refine Kd.C_drewN ?_ _) | (with_reducible refine Kd.C_drew ?_))); (case side4 => rw [show t346.length = t338.length from (Kd.R_reads' HO_343001.out).1.symm]; exact (Kd.R_reads' HO_343001.out).2.1); rintro e w35 ⟨rfl, hb⟩; refine ⟨_, rfl, ?_⟩; have n0_ := Aside0.mk (Kd.V_below (by (with_reducible repeat (first | apply Kd.V_alloc | apply Kd.V_drewN | apply Kd.V_drew)); exact HO_335000.out) hb); have n1_ := Aside0.mk (Kd.V_below (by (with_reducible repeat (first | apply Kd.V_alloc | apply Kd.V_drewN | apply Kd.V_drew)); exact HO_335001.out) hb); have n2_ := Aside0.mk (Kd.R_below (by (with_reducible repeat (first | apply Kd.R_alloc | apply Kd.R_drewN | apply Kd.R_drew)); exact HO_343000.out) hb); have n3_ := Aside0.mk (Kd.R_below (by (with_reducible repeat (first | apply Kd.R_alloc | apply Kd.R_drewN | apply Kd.R_drew)); exact HO_343001.out) hb); have n4_ := Aside0.mk (blk_below (g := gb334) (o := .cells #[.slice Ao8 t327.length co8, .slice Ao10 t330.length co10] 44 (0, 0)) (by (with_reducible repeat (first | refine blk_drewN ?_ _ | refine blk_drew ?_ | refine blk_alloc ?_ _)); exact BK334.out) hb); have n5_ := Aside0.mk (blk_below (g := gb342) (o := .cells #[.slice Ao13 t335.length co13, .slice Ao16 t338.length co16] 44 (0, 0)) (by (with_reducible repeat (first | refine blk_drewN ?_ _ | refine blk_drew ?_ | refine blk_alloc ?_ _)); exact BK342.out) hb); have n6_ := Aside0.mk (below_step (by repeat (first | (with_reducible first | exact HB.out | apply below_alloc | apply pw_below_drewN | apply below_drew1 | refine below_set ?_ GE334.out | refine below_set ?_ GE342.out) | exact HB.out)) hb); clear HO_335000; clear HO_335001; clear HO_343000; clear HO_343001; clear BK334; clear BK342; clear HB; have HO_335000 := n0_; have HO_335001 := n1_; have HO_343000 := n2_; have HO_343001 := n3_; have BK334 := n4_; have BK342 := n5_; have HB := n6_; clear n0_ n1_ n2_ n3_ n4_ n5_ n6_; (try clear hb); (try clear hb2); (try clear hk); (try clear hi)))
          go_ret
          exact ⟨by first | rfl | (simp [errW_none, errW_some] <;> rfl) | (simp [*, errW_none, errW_some] <;> rfl), by repeat (first | (with_reducible first | exact HB.out | apply below_alloc | apply pw_below_drewN | apply below_drew1 | refine below_set ?_ GE334.out | refine below_set ?_ GE342.out) | exact HB.out)⟩
        · rw [if_neg c30] at H
          have c30b0 : decide (t347 < 0) = false := decide_eq_false c30
          clear c30
          by_cases c36 : t347 = t344
          · rw [if_pos c36] at H
            have c36b0 : (t347 == t344) = true := beq_iff_eq.mpr c36
            have c36b1 : (t347 != t344) = false := bne_eq_false_iff_eq.mpr c36
            clear c36
            replace H := Option.bind_eq_some_iff.mp H
            obtain ⟨⟨t348, t351, t354⟩, A370, H⟩ := H
            replace H : ((laws_eqMeander.f kj4 t348 t351 t327 t330).bind fun t356 => (if t356 = true then (laws_FnExactMeanderWith.j1 kj4 t344 (t354 != t333) t345 t346) else (laws_FnExactMeanderWith.j1 kj4 t344 true t345 t346))) = some r := H
            have A37 := Aside0.mk A370
            clear A370
            have HC38 := Aside0.mk H
            clear H
            have hnb39 := NB342_334.out
            have hnc39 := NB334_342.out
            have hcz40_0 : wc.cell? ⟨gb342, 0, none⟩ = some (.slice Ao13 t335.length co13) := (blk_cell BK342.out 0).trans rfl
            have hcz40_1 : wc.cell? ⟨gb342, 1, none⟩ = some (.slice Ao16 t338.length co16) := (blk_cell BK342.out 1).trans rfl
            have hfz40_0 := blk_frozen BK342.out 0
            have hfz40_1 := blk_frozen BK342.out 1
            go_upto_region 14 with (first | ((with_reducible refine gate_callee (f := 41) rfl ?_); refine goesL_ (some 36) rfl rfl Try.func41 (by kernel_rfl) rfl #[.agg #[.slice Ao13 t335.length co13, .slice Ao16 t338.length co16], .int .i64 1] rfl (by (try simp only [List.map_toArray, List.map_cons, List.map_nil]); first | done | rfl | (simp only [List.length_drop, List.length_take]; rfl)) ?_; (with_reducible refine (laws_markMeander.calls kj4 (fun k_ => some k_ = (.slice Ao13 t335.length co13 : Value).ownBlock) (.slice Ao13 t335.length co13) t335 (fun k_ => some k_ = (.slice Ao16 t338.length co16 : Value).ownBlock) (.slice Ao16 t338.length co16) t338 1 t344 t345 t346 w _ ?side1 ?side2 ?side3 ?side4 ?side5 A28.out).mono ?_); (case side1 => repeat (first | (with_reducible first | exact HB.out | apply below_alloc | apply pw_below_drewN | apply below_drew1 | refine below_set ?_ GE334.out | refine below_set ?_ GE342.out) | exact HB.out)); (case side2 => exact Kd.R_tight rfl HO_343000.out); (case side3 => exact fun k_ e_ => (HO_343000.out.1 k_ e_.symm)); (case side4 => exact Kd.R_tight rfl HO_343001.out); (case side5 => exact fun k_ e_ => (HO_343001.out.1 k_ e_.symm)); rintro e w41 ⟨rfl, hy0, hy1, hb, hkp⟩; refine ⟨_, rfl, ?_⟩; have n0_ := Aside0.mk (Kd.V_mono (ok' := fun k_ => some k_ ≠ (.slice Ao13 t335.length co13 : Value).ownBlock ∧ some k_ ≠ (.slice Ao16 t338.length co16 : Value).ownBlock ∧ k_ ≠ gb334 ∧ k_ ≠ gb342) (Kd.V_keptB (HO_335000.out) hkp (fun k_ hk_ hs_ => Or.elim hs_ (fun e_ => (hk_.1) e_) (fun e_ => (hk_.2.1) e_))) (fun k_ hk_ => ⟨hk_.1.1, hk_.1.2.1, hk_.1.2.2.1, hk_.1.2.2.2⟩)); have n1_ := Aside0.mk (Kd.V_mono (ok' := fun k_ => some k_ ≠ (.slice Ao13 t335.length co13 : Value).ownBlock ∧ some k_ ≠ (.slice Ao16 t338.length co16 : Value).ownBlock ∧ k_ ≠ gb334 ∧ k_ ≠ gb342) (Kd.V_keptB (HO_335001.out) hkp (fun k_ hk_ hs_ => Or.elim hs_ (fun e_ => (hk_.1) e_) (fun e_ => (hk_.2.1) e_))) (fun k_ hk_ => ⟨hk_.1.1, hk_.1.2.1, hk_.1.2.2.1, hk_.1.2.2.2⟩)); have n2_ := Aside0.mk (Kd.R_reok rfl hy0 (fun k_ e_ => HO_343000.out.1 k_ e_)); have n3_ := Aside0.mk (Kd.R_reok rfl hy1 (fun k_ e_ => HO_343001.out.1 k_ e_)); have n4_ := Aside0.mk (blk_kept (by (with_reducible repeat (first | refine blk_drewN ?_ _ | refine blk_drew ?_ | refine blk_alloc ?_ _)); exact BK334.out) hkp (fun hs_ => Or.elim hs_ (fun e_ => (fun e_ => (Kd.R_ne HO_343000.out BK334.out (by decide)) e_) e_) (fun e_ => (fun e_ => (Kd.R_ne HO_343001.out BK334.out (by decide)) e_) e_))); have n5_ := Aside0.mk (blk_kept (by (with_reducible repeat (first | refine blk_drewN ?_ _ | refine blk_drew ?_ | refine blk_alloc ?_ _)); exact BK342.out) hkp (fun hs_ => Or.elim hs_ (fun e_ => (fun e_ => (Kd.R_ne HO_343000.out BK342.out (by decide)) e_) e_) (fun e_ => (fun e_ => (Kd.R_ne HO_343001.out BK342.out (by decide)) e_) e_))); have n6_ := Aside0.mk (hb); clear HO_335000; clear HO_335001; clear HO_343000; clear HO_343001; clear BK334; clear BK342; clear HB; have HO_335000 := n0_; have HO_335001 := n1_; have HO_343000 := n2_; have HO_343001 := n3_; have BK334 := n4_; have BK342 := n5_; have HB := n6_; clear n0_ n1_ n2_ n3_ n4_ n5_ n6_; (try clear hb); (try clear hkp); (try clear hy0); (try clear hy1); have hcz42_0 : w41.cell? ⟨gb342, 0, none⟩ = some (.slice Ao13 t335.length co13) := (blk_cell BK342.out 0).trans rfl; have hcz42_1 : w41.cell? ⟨gb342, 1, none⟩ = some (.slice Ao16 t338.length co16) := (blk_cell BK342.out 1).trans rfl; have hfz42_0 := blk_frozen BK342.out 0; have hfz42_1 := blk_frozen BK342.out 1) | ((with_reducible refine gate_callee (f := 42) rfl ?_); refine goesL_ (some 39) rfl rfl Try.func42 (by kernel_rfl) rfl #[.agg #[.slice Ao13 t345.length co13, .slice Ao16 t346.length co16], .int .i64 1] rfl (by (try simp only [List.map_toArray, List.map_cons, List.map_nil]); first | done | (rw [show t345.length = t335.length from (Kd.R_reads' HO_343000.out).1.symm, show t346.length = t338.length from (Kd.R_reads' HO_343001.out).1.symm] <;> rfl) | rfl | (simp only [List.length_drop, List.length_take]; rfl)) ?_; (with_reducible refine (laws_heldMeander.calls kj4 _ _ t345 _ _ t346 1 t347 _ ?side1 ?side2 ?side3 ?side4 A29.out).mono ?_); (case side1 => repeat (first | exact (Kd.R_reads' HO_343000.out).2.2 | (with_reducible refine Kd.C_alloc ?_ _) | (with_reducible refine Kd.C_drewN ?_ _) | (with_reducible refine Kd.C_drew ?_))); (case side2 => rw [show t345.length = t335.length from (Kd.R_reads' HO_343000.out).1.symm]; exact (Kd.R_reads' HO_343000.out).2.1); (case side3 => repeat (first | exact (Kd.R_reads' HO_343001.out).2.2 | (with_reducible refine Kd.C_alloc ?_ _) | (with_reducible refine Kd.C_drewN ?_ _) | (with_reducible refine Kd.C_drew ?_))); (case side4 => rw [show t346.length = t338.length from (Kd.R_reads' HO_343001.out).1.symm]; exact (Kd.R_reads' HO_343001.out).2.1); rintro e w43 ⟨rfl, hb⟩; refine ⟨_, rfl, ?_⟩; have n0_ := Aside0.mk (Kd.V_below (by (with_reducible repeat (first | apply Kd.V_alloc | apply Kd.V_drewN | apply Kd.V_drew)); exact HO_335000.out) hb); have n1_ := Aside0.mk (Kd.V_below (by (with_reducible repeat (first | apply Kd.V_alloc | apply Kd.V_drewN | apply Kd.V_drew)); exact HO_335001.out) hb); have n2_ := Aside0.mk (Kd.R_below (by (with_reducible repeat (first | apply Kd.R_alloc | apply Kd.R_drewN | apply Kd.R_drew)); exact HO_343000.out) hb); have n3_ := Aside0.mk (Kd.R_below (by (with_reducible repeat (first | apply Kd.R_alloc | apply Kd.R_drewN | apply Kd.R_drew)); exact HO_343001.out) hb); have n4_ := Aside0.mk (blk_below (g := gb334) (o := .cells #[.slice Ao8 t327.length co8, .slice Ao10 t330.length co10] 44 (0, 0)) (by (with_reducible repeat (first | refine blk_drewN ?_ _ | refine blk_drew ?_ | refine blk_alloc ?_ _)); exact BK334.out) hb); have n5_ := Aside0.mk (blk_below (g := gb342) (o := .cells #[.slice Ao13 t335.length co13, .slice Ao16 t338.length co16] 44 (0, 0)) (by (with_reducible repeat (first | refine blk_drewN ?_ _ | refine blk_drew ?_ | refine blk_alloc ?_ _)); exact BK342.out) hb); have n6_ := Aside0.mk (below_step (by repeat (first | (with_reducible first | exact HB.out | apply below_alloc | apply pw_below_drewN | apply below_drew1 | refine below_set ?_ GE334.out | refine below_set ?_ GE342.out) | exact HB.out)) hb); clear HO_335000; clear HO_335001; clear HO_343000; clear HO_343001; clear BK334; clear BK342; clear HB; have HO_335000 := n0_; have HO_335001 := n1_; have HO_343000 := n2_; have HO_343001 := n3_; have BK334 := n4_; have BK342 := n5_; have HB := n6_; clear n0_ n1_ n2_ n3_ n4_ n5_ n6_; (try clear hb); (try clear hb2); (try clear hk); (try clear hi)) | ((with_reducible refine gate_callee (f := 39) rfl ?_); refine goesL_ (some 48) rfl rfl Try.func39 (by kernel_rfl) rfl #[.int .i64 a0, .int .i64 a1] rfl (by (try simp only [List.map_toArray, List.map_cons, List.map_nil]); first | done | rfl | (simp only [List.length_drop, List.length_take]; rfl)) ?_; (with_reducible refine (impl_MeanderWith.calls kj4 a0 a1 t348 t351 t354 _ A37.out).mono ?_); rintro e w44 ⟨v349, v352, rfl, ho0, ho1, hb⟩; refine ⟨_, rfl, ?_⟩; have n0_ := Aside0.mk (Kd.V_mono (Kd.V_told (Kd.V_told (Kd.V_old (by (with_reducible repeat (first | apply Kd.V_alloc | apply Kd.V_drewN | apply Kd.V_drew)); exact HO_335000.out) hb) (Kd.R_base ho0)) (Kd.R_base ho1)) (fun _ h_ => h_.1)); have n1_ := Aside0.mk (Kd.V_mono (Kd.V_told (Kd.V_told (Kd.V_old (by (with_reducible repeat (first | apply Kd.V_alloc | apply Kd.V_drewN | apply Kd.V_drew)); exact HO_335001.out) hb) (Kd.R_base ho0)) (Kd.R_base ho1)) (fun _ h_ => h_.1)); have n2_ := Aside0.mk (Kd.R_mono (Kd.R_told (Kd.R_told (Kd.R_old (by (with_reducible repeat (first | apply Kd.R_alloc | apply Kd.R_drewN | apply Kd.R_drew)); exact HO_343000.out) hb) (Kd.R_base ho0)) (Kd.R_base ho1)) (fun _ h_ => h_.1)); have n3_ := Aside0.mk (Kd.R_mono (Kd.R_told (Kd.R_told (Kd.R_old (by (with_reducible repeat (first | apply Kd.R_alloc | apply Kd.R_drewN | apply Kd.R_drew)); exact HO_343001.out) hb) (Kd.R_base ho0)) (Kd.R_base ho1)) (fun _ h_ => h_.1)); have n4_ := Aside0.mk (Kd.R_lower (Kd.R_new' (Kd.R_new' ho0 (Kd.R_lt (by (with_reducible repeat (first | apply Kd.R_alloc | apply Kd.R_drewN | apply Kd.R_drew)); exact HO_343000.out))) (Kd.R_lt (by (with_reducible repeat (first | apply Kd.R_alloc | apply Kd.R_drewN | apply Kd.R_drew)); exact HO_343001.out))) (below_size (by repeat (first | (with_reducible first | exact HB.out | apply below_alloc | apply pw_below_drewN | apply below_drew1 | refine below_set ?_ GE334.out | refine below_set ?_ GE342.out) | exact HB.out)))); have n5_ := Aside0.mk (Kd.R_lower (Kd.R_new' (Kd.R_new' ho1 (Kd.R_lt (by (with_reducible repeat (first | apply Kd.R_alloc | apply Kd.R_drewN | apply Kd.R_drew)); exact HO_343000.out))) (Kd.R_lt (by (with_reducible repeat (first | apply Kd.R_alloc | apply Kd.R_drewN | apply Kd.R_drew)); exact HO_343001.out))) (below_size (by repeat (first | (with_reducible first | exact HB.out | apply below_alloc | apply pw_below_drewN | apply below_drew1 | refine below_set ?_ GE334.out | refine below_set ?_ GE342.out) | exact HB.out)))); have n6_ := Aside0.mk (blk_below (g := gb334) (o := .cells #[.slice Ao8 t327.length co8, .slice Ao10 t330.length co10] 44 (0, 0)) (by (with_reducible repeat (first | refine blk_drewN ?_ _ | refine blk_drew ?_ | refine blk_alloc ?_ _)); exact BK334.out) hb); have n7_ := Aside0.mk (blk_below (g := gb342) (o := .cells #[.slice Ao13 t335.length co13, .slice Ao16 t338.length co16] 44 (0, 0)) (by (with_reducible repeat (first | refine blk_drewN ?_ _ | refine blk_drew ?_ | refine blk_alloc ?_ _)); exact BK342.out) hb); have n8_ := Aside0.mk (below_step (by repeat (first | (with_reducible first | exact HB.out | apply below_alloc | apply pw_below_drewN | apply below_drew1 | refine below_set ?_ GE334.out | refine below_set ?_ GE342.out) | exact HB.out)) hb); clear HO_335000; clear HO_335001; clear HO_343000; clear HO_343001; clear BK334; clear BK342; clear HB; have HO_335000 := n0_; have HO_335001 := n1_; have HO_343000 := n2_; have HO_343001 := n3_; have HO350 := n4_; have HO353 := n5_; have BK334 := n6_; have BK342 := n7_; have HB := n8_; clear n0_ n1_ n2_ n3_ n4_ n5_ n6_ n7_ n8_; (try clear hb); (try clear hb2); (try clear hk); (try clear hi); (try clear ho0); (try clear ho1)) | ((with_reducible refine gate_dst (N := 11) rfl ?_); refine box_event ?hg (N := 11) ?hd (cs := #[.slice none 0 0, .slice none 0 0]) (t := 44) ?hr ?_; (case hd => rfl); (case hg => rfl); (case hr => first | (go_simp; done) | (go_simp; rfl)); intro gb355 hg w45 hbox hb; have n0_ := Aside0.mk (Kd.V_below (Kd.V_elderB (by (with_reducible repeat (first | apply Kd.V_alloc | apply Kd.V_drewN | apply Kd.V_drew)); exact HO_335000.out) gb355 (Nat.le_of_eq hg.symm)) hb); have n1_ := Aside0.mk (Kd.V_below (Kd.V_elderB (by (with_reducible repeat (first | apply Kd.V_alloc | apply Kd.V_drewN | apply Kd.V_drew)); exact HO_335001.out) gb355 (Nat.le_of_eq hg.symm)) hb); have n2_ := Aside0.mk (Kd.R_below (by (with_reducible repeat (first | apply Kd.R_alloc | apply Kd.R_drewN | apply Kd.R_drew)); exact HO_343000.out) hb); have n3_ := Aside0.mk (Kd.R_below (by (with_reducible repeat (first | apply Kd.R_alloc | apply Kd.R_drewN | apply Kd.R_drew)); exact HO_343001.out) hb); have n4_ := Aside0.mk (Kd.R_below (by (with_reducible repeat (first | apply Kd.R_alloc | apply Kd.R_drewN | apply Kd.R_drew)); exact HO350.out) hb); have n5_ := Aside0.mk (Kd.R_below (by (with_reducible repeat (first | apply Kd.R_alloc | apply Kd.R_drewN | apply Kd.R_drew)); exact HO353.out) hb); have n6_ := Aside0.mk (blk_below (g := gb334) (o := .cells #[.slice Ao8 t327.length co8, .slice Ao10 t330.length co10] 44 (0, 0)) (by (with_reducible repeat (first | refine blk_drewN ?_ _ | refine blk_drew ?_ | refine blk_alloc ?_ _)); exact BK334.out) hb); have n7_ := Aside0.mk (blk_below (g := gb342) (o := .cells #[.slice Ao13 t335.length co13, .slice Ao16 t338.length co16] 44 (0, 0)) (by (with_reducible repeat (first | refine blk_drewN ?_ _ | refine blk_drew ?_ | refine blk_alloc ?_ _)); exact BK342.out) hb); have n8_ := Aside0.mk (below_step (by repeat (first | (with_reducible first | exact HB.out | apply below_alloc | apply pw_below_drewN | apply below_drew1 | refine below_set ?_ GE334.out | refine below_set ?_ GE342.out) | exact HB.out)) hb); have n9_ := Aside0.mk (hbox); have n10_ := Aside0.mk ((by rw [hg]; exact (below_size (by repeat (first | (with_reducible first | exact HB.out | apply below_alloc | apply pw_below_drewN | apply below_drew1 | refine below_set ?_ GE334.out | refine below_set ?_ GE342.out) | exact HB.out))) : w.heap.size ≤ gb355)); have n11_ := Aside0.mk ((by rw [hg]; exact (below_size (by repeat (first | (with_reducible first | exact HB.out | apply below_alloc | apply pw_below_drewN | apply below_drew1 | refine below_set ?_ GE334.out | refine below_set ?_ GE342.out) | exact HB.out))) : w.heap.size ≤ gb355)); have n12_ := Aside0.mk ((by rw [hg]; exact Nat.ne_of_lt (blk_lt (g := gb334) (o := .cells #[.slice Ao8 t327.length co8, .slice Ao10 t330.length co10] 44 (0, 0)) (by (with_reducible repeat (first | refine blk_drewN ?_ _ | refine blk_drew ?_ | refine blk_alloc ?_ _)); exact BK334.out)) : gb334 ≠ gb355)); have n13_ := Aside0.mk ((by rw [hg]; exact Nat.ne_of_gt (blk_lt (g := gb334) (o := .cells #[.slice Ao8 t327.length co8, .slice Ao10 t330.length co10] 44 (0, 0)) (by (with_reducible repeat (first | refine blk_drewN ?_ _ | refine blk_drew ?_ | refine blk_alloc ?_ _)); exact BK334.out)) : gb355 ≠ gb334)); have n14_ := Aside0.mk ((by rw [hg]; exact Nat.ne_of_lt (blk_lt (g := gb342) (o := .cells #[.slice Ao13 t335.length co13, .slice Ao16 t338.length co16] 44 (0, 0)) (by (with_reducible repeat (first | refine blk_drewN ?_ _ | refine blk_drew ?_ | refine blk_alloc ?_ _)); exact BK342.out)) : gb342 ≠ gb355)); have n15_ := Aside0.mk ((by rw [hg]; exact Nat.ne_of_gt (blk_lt (g := gb342) (o := .cells #[.slice Ao13 t335.length co13, .slice Ao16 t338.length co16] 44 (0, 0)) (by (with_reducible repeat (first | refine blk_drewN ?_ _ | refine blk_drew ?_ | refine blk_alloc ?_ _)); exact BK342.out)) : gb355 ≠ gb342)); clear HO_335000; clear HO_335001; clear HO_343000; clear HO_343001; clear HO350; clear HO353; clear BK334; clear BK342; clear HB; have HO_335000 := n0_; have HO_335001 := n1_; have HO_343000 := n2_; have HO_343001 := n3_; have HO350 := n4_; have HO353 := n5_; have BK334 := n6_; have BK342 := n7_; have HB := n8_; have BK355 := n9_; have GW355 := n10_; have GE355 := n11_; have NB334_355 := n12_; have NB355_334 := n13_; have NB342_355 := n14_; have NB355_342 := n15_; clear n0_ n1_ n2_ n3_ n4_ n5_ n6_ n7_ n8_ n9_ n10_ n11_ n12_ n13_ n14_ n15_; clear hb hbox hg; obtain ⟨Ao46, co46, eo46⟩ := Kd.R_slice HO350.out; subst eo46; have hnb47 := NB355_334.out; have hnc47 := NB334_355.out; have hnb48 := NB355_342.out; have hnc48 := NB342_355.out; have hcz49_0 : w45.cell? ⟨gb355, 0, none⟩ = some (.slice none 0 0) := (blk_cell BK355.out 0).trans rfl; have hcz49_1 : w45.cell? ⟨gb355, 1, none⟩ = some (.slice none 0 0) := (blk_cell BK355.out 1).trans rfl; have hfz49_0 := blk_frozen BK355.out 0; have hfz49_1 := blk_frozen BK355.out 1; obtain ⟨Ao50, co50, eo50⟩ := Kd.R_slice HO353.out; subst eo50))
            (try simp only [Act.put, List.setIfInBounds_toArray, List.set_cons_zero, List.set_cons_succ])
            go_cut [59] (fun v59 wc => ∃ (kq : Nat) (x59_37 : Bool), v59 = .bool x59_37 ∧ Aside0 (laws_FnExactMeanderWith.j1 kq t344 x59_37 t345 t346 = some r) ∧ Aside0 (kq ≤ kj4) ∧ Aside0 (Kd.V (Kd.int .i64) 3 wc w.heap.size (fun k_ => some k_ ≠ ((.slice Ao13 t335.length co13) : Value).ownBlock ∧ some k_ ≠ ((.slice Ao16 t338.length co16) : Value).ownBlock ∧ some k_ ≠ ((.slice Ao46 t348.length co46) : Value).ownBlock ∧ some k_ ≠ ((.slice Ao50 t351.length co50) : Value).ownBlock ∧ k_ ≠ gb334 ∧ k_ ≠ gb342 ∧ k_ ≠ gb355) (.slice Ao8 t327.length co8) t327) ∧ Aside0 (Kd.V (Kd.int .i64) 3 wc w.heap.size (fun k_ => some k_ ≠ ((.slice Ao13 t335.length co13) : Value).ownBlock ∧ some k_ ≠ ((.slice Ao16 t338.length co16) : Value).ownBlock ∧ some k_ ≠ ((.slice Ao46 t348.length co46) : Value).ownBlock ∧ some k_ ≠ ((.slice Ao50 t351.length co50) : Value).ownBlock ∧ k_ ≠ gb334 ∧ k_ ≠ gb342 ∧ k_ ≠ gb355) (.slice Ao10 t330.length co10) t330) ∧ Aside0 (Kd.R (Kd.int .i64) 3 wc w.heap.size (fun k_ => some k_ ≠ ((.slice Ao16 t338.length co16) : Value).ownBlock ∧ some k_ ≠ ((.slice Ao46 t348.length co46) : Value).ownBlock ∧ some k_ ≠ ((.slice Ao50 t351.length co50) : Value).ownBlock) (.slice Ao13 t335.length co13) t345) ∧ Aside0 (Kd.R (Kd.int .i64) 3 wc w.heap.size (fun k_ => some k_ ≠ ((.slice Ao13 t335.length co13) : Value).ownBlock ∧ some k_ ≠ ((.slice Ao46 t348.length co46) : Value).ownBlock ∧ some k_ ≠ ((.slice Ao50 t351.length co50) : Value).ownBlock) (.slice Ao16 t338.length co16) t346) ∧ Aside0 (Kd.R (Kd.int .i64) 3 wc w.heap.size (fun k_ => some k_ ≠ ((.slice Ao13 t335.length co13) : Value).ownBlock ∧ some k_ ≠ ((.slice Ao16 t338.length co16) : Value).ownBlock ∧ some k_ ≠ ((.slice Ao50 t351.length co50) : Value).ownBlock) (.slice Ao46 t348.length co46) t348) ∧ Aside0 (Kd.R (Kd.int .i64) 3 wc w.heap.size (fun k_ => some k_ ≠ ((.slice Ao13 t335.length co13) : Value).ownBlock ∧ some k_ ≠ ((.slice Ao16 t338.length co16) : Value).ownBlock ∧ some k_ ≠ ((.slice Ao46 t348.length co46) : Value).ownBlock) (.slice Ao50 t351.length co50) t351) ∧ Aside0 (wc.heap[gb334]? = some (.cells #[(.slice Ao8 t327.length co8), (.slice Ao10 t330.length co10)] 44 (0, 0))) ∧ Aside0 (wc.heap[gb342]? = some (.cells #[(.slice Ao13 t335.length co13), (.slice Ao16 t338.length co16)] 44 (0, 0))) ∧ Aside0 (wc.heap[gb355]? = some (.cells #[(.slice Ao46 t348.length co46), (.slice Ao50 t351.length co50)] 44 (0, 0))) ∧ Aside0 (Below w.heap.size w wc))
            case first =>
              have H := HC38.out
              clear HC38
              replace H := Option.bind_eq_some_iff.mp H
              obtain ⟨t356, A510, H⟩ := H
              replace H : (if t356 = true then (laws_FnExactMeanderWith.j1 kj4 t344 (t354 != t333) t345 t346) else (laws_FnExactMeanderWith.j1 kj4 t344 true t345 t346)) = some r := H
              have A51 := Aside0.mk A510
              clear A510
              by_cases c52 : t356 = true
              · subst c52
                have H1 : (laws_FnExactMeanderWith.j1 kj4 t344 (t354 != t333) t345 t346) = some r := by rw [if_pos rfl] at H; exact H
                clear H
                have H := H1
                clear H1
                have H' := Aside0.mk H
                clear H
                have hnb53 := NB355_334.out
                have hnc53 := NB334_355.out
                have hnb54 := NB355_342.out
                have hnc54 := NB342_355.out
                have hcz55_0 : w45.cell? ⟨gb355, 0, none⟩ = some (.slice none 0 0) := (blk_cell BK355.out 0).trans rfl
                have hcz55_1 : w45.cell? ⟨gb355, 1, none⟩ = some (.slice none 0 0) := (blk_cell BK355.out 1).trans rfl
                have hfz55_0 := blk_frozen BK355.out 0
                have hfz55_1 := blk_frozen BK355.out 1
                have hnb56 := NB334_342.out
                have hnc56 := NB342_334.out
                have hcz57_0 : w45.cell? ⟨gb334, 0, none⟩ = some (.slice Ao8 t327.length co8) := (blk_cell BK334.out 0).trans rfl
                have hcz57_1 : w45.cell? ⟨gb334, 1, none⟩ = some (.slice Ao10 t330.length co10) := (blk_cell BK334.out 1).trans rfl
                have hfz57_0 := blk_frozen BK334.out 0
                have hfz57_1 := blk_frozen BK334.out 1
                go_wp2_with (first | ((with_reducible refine gate_callee (f := 40) rfl ?_); refine goesL_ (some 53) rfl rfl Try.func40 (by kernel_rfl) rfl #[.agg #[.slice Ao46 t348.length co46, .slice Ao50 t351.length co50], .agg #[.slice Ao8 t327.length co8, .slice Ao10 t330.length co10]] rfl (by (try simp only [List.map_toArray, List.map_cons, List.map_nil]); first | done | rfl | (simp only [List.length_drop, List.length_take]; rfl)) ?_; (with_reducible refine (laws_eqMeander.calls kj4 _ _ t348 _ _ t351 _ _ t327 _ _ t330 true _ ?side1 ?side2 ?side3 ?side4 ?side5 ?side6 ?side7 ?side8 A51.out).mono ?_); (case side1 => refine (Kd.R_reads' (e := 3) (base := w.heap.size) (ok := fun k_ => ((some k_ ≠ (.slice Ao50 t351.length co50 : Value).ownBlock ∧ some k_ ≠ (.slice Ao13 t335.length co13 : Value).ownBlock) ∧ some k_ ≠ (.slice Ao16 t338.length co16 : Value).ownBlock)) (n := t348.length) (c := co46) ?_).2.2; exact (by (with_reducible repeat (first | apply Kd.R_alloc | apply Kd.R_drewN | apply Kd.R_drew)); exact (Kd.R_mono (Kd.R_far (p := ⟨gb355, 1, none⟩) (Kd.R_far (p := ⟨gb355, 0, none⟩) (Kd.R_types HO350.out BK355.out (by decide)) (fun _ hk => hk.2) (.slice Ao46 t348.length co46)) (fun _ hk => hk.2) (.slice Ao50 t351.length co50)) (fun _ h_ => h_.1)))); (case side2 => exact (Kd.R_reads' HO350.out).2.1); (case side3 => refine (Kd.R_reads' (e := 3) (base := w.heap.size) (ok := fun k_ => ((some k_ ≠ (.slice Ao46 t348.length co46 : Value).ownBlock ∧ some k_ ≠ (.slice Ao13 t335.length co13 : Value).ownBlock) ∧ some k_ ≠ (.slice Ao16 t338.length co16 : Value).ownBlock)) (n := t351.length) (c := co50) ?_).2.2; exact (by (with_reducible repeat (first | apply Kd.R_alloc | apply Kd.R_drewN | apply Kd.R_drew)); exact (Kd.R_mono (Kd.R_far (p := ⟨gb355, 1, none⟩) (Kd.R_far (p := ⟨gb355, 0, none⟩) (Kd.R_types HO353.out BK355.out (by decide)) (fun _ hk => hk.2) (.slice Ao46 t348.length co46)) (fun _ hk => hk.2) (.slice Ao50 t351.length co50)) (fun _ h_ => h_.1)))); (case side4 => exact (Kd.R_reads' HO353.out).2.1); (case side5 => refine (Kd.V_reads' (e := 3) (base := w.heap.size) (ok := fun k_ => ((((some k_ ≠ (.slice Ao13 t335.length co13 : Value).ownBlock ∧ (some k_ ≠ (.slice Ao16 t338.length co16 : Value).ownBlock ∧ (k_ ≠ gb334 ∧ k_ ≠ gb342))) ∧ some k_ ≠ (.slice Ao46 t348.length co46 : Value).ownBlock) ∧ some k_ ≠ (.slice Ao50 t351.length co50 : Value).ownBlock) ∧ k_ ≠ gb355)) (n := t327.length) (c := co8) ?_).2.2; exact (by (with_reducible repeat (first | apply Kd.V_alloc | apply Kd.V_drewN | apply Kd.V_drew)); exact (Kd.V_mono (Kd.V_far (p := ⟨gb355, 1, none⟩) (Kd.V_far (p := ⟨gb355, 0, none⟩) (Kd.V_mono HO_335000.out (fun k_ hk => (⟨hk, hk.2⟩ : _ ∧ k_ ≠ gb355))) (fun _ hk => hk.2) (.slice Ao46 t348.length co46)) (fun _ hk => hk.2) (.slice Ao50 t351.length co50)) (fun _ h_ => h_.1)))); (case side6 => exact (Kd.V_reads' HO_335000.out).2.1); (case side7 => refine (Kd.V_reads' (e := 3) (base := w.heap.size) (ok := fun k_ => ((((some k_ ≠ (.slice Ao13 t335.length co13 : Value).ownBlock ∧ (some k_ ≠ (.slice Ao16 t338.length co16 : Value).ownBlock ∧ (k_ ≠ gb334 ∧ k_ ≠ gb342))) ∧ some k_ ≠ (.slice Ao46 t348.length co46 : Value).ownBlock) ∧ some k_ ≠ (.slice Ao50 t351.length co50 : Value).ownBlock) ∧ k_ ≠ gb355)) (n := t330.length) (c := co10) ?_).2.2; exact (by (with_reducible repeat (first | apply Kd.V_alloc | apply Kd.V_drewN | apply Kd.V_drew)); exact (Kd.V_mono (Kd.V_far (p := ⟨gb355, 1, none⟩) (Kd.V_far (p := ⟨gb355, 0, none⟩) (Kd.V_mono HO_335001.out (fun k_ hk => (⟨hk, hk.2⟩ : _ ∧ k_ ≠ gb355))) (fun _ hk => hk.2) (.slice Ao46 t348.length co46)) (fun _ hk => hk.2) (.slice Ao50 t351.length co50)) (fun _ h_ => h_.1)))); (case side8 => exact (Kd.V_reads' HO_335001.out).2.1); rintro e w58 ⟨rfl, hb⟩; refine ⟨_, rfl, ?_⟩; have n0_ := Aside0.mk (Kd.V_below (by (with_reducible repeat (first | apply Kd.V_alloc | apply Kd.V_drewN | apply Kd.V_drew)); exact (Kd.V_mono (Kd.V_far (p := ⟨gb355, 1, none⟩) (Kd.V_far (p := ⟨gb355, 0, none⟩) (Kd.V_mono HO_335000.out (fun k_ hk => (⟨hk, hk.2⟩ : _ ∧ k_ ≠ gb355))) (fun _ hk => hk.2) (.slice Ao46 t348.length co46)) (fun _ hk => hk.2) (.slice Ao50 t351.length co50)) (fun _ h_ => h_.1))) hb); have n1_ := Aside0.mk (Kd.V_below (by (with_reducible repeat (first | apply Kd.V_alloc | apply Kd.V_drewN | apply Kd.V_drew)); exact (Kd.V_mono (Kd.V_far (p := ⟨gb355, 1, none⟩) (Kd.V_far (p := ⟨gb355, 0, none⟩) (Kd.V_mono HO_335001.out (fun k_ hk => (⟨hk, hk.2⟩ : _ ∧ k_ ≠ gb355))) (fun _ hk => hk.2) (.slice Ao46 t348.length co46)) (fun _ hk => hk.2) (.slice Ao50 t351.length co50)) (fun _ h_ => h_.1))) hb); have n2_ := Aside0.mk (Kd.R_below (by (with_reducible repeat (first | apply Kd.R_alloc | apply Kd.R_drewN | apply Kd.R_drew)); exact (Kd.R_mono (Kd.R_far (p := ⟨gb355, 1, none⟩) (Kd.R_far (p := ⟨gb355, 0, none⟩) (Kd.R_types HO_343000.out BK355.out (by decide)) (fun _ hk => hk.2) (.slice Ao46 t348.length co46)) (fun _ hk => hk.2) (.slice Ao50 t351.length co50)) (fun _ h_ => h_.1))) hb); have n3_ := Aside0.mk (Kd.R_below (by (with_reducible repeat (first | apply Kd.R_alloc | apply Kd.R_drewN | apply Kd.R_drew)); exact (Kd.R_mono (Kd.R_far (p := ⟨gb355, 1, none⟩) (Kd.R_far (p := ⟨gb355, 0, none⟩) (Kd.R_types HO_343001.out BK355.out (by decide)) (fun _ hk => hk.2) (.slice Ao46 t348.length co46)) (fun _ hk => hk.2) (.slice Ao50 t351.length co50)) (fun _ h_ => h_.1))) hb); have n4_ := Aside0.mk (Kd.R_below (by (with_reducible repeat (first | apply Kd.R_alloc | apply Kd.R_drewN | apply Kd.R_drew)); exact (Kd.R_mono (Kd.R_far (p := ⟨gb355, 1, none⟩) (Kd.R_far (p := ⟨gb355, 0, none⟩) (Kd.R_types HO350.out BK355.out (by decide)) (fun _ hk => hk.2) (.slice Ao46 t348.length co46)) (fun _ hk => hk.2) (.slice Ao50 t351.length co50)) (fun _ h_ => h_.1))) hb); have n5_ := Aside0.mk (Kd.R_below (by (with_reducible repeat (first | apply Kd.R_alloc | apply Kd.R_drewN | apply Kd.R_drew)); exact (Kd.R_mono (Kd.R_far (p := ⟨gb355, 1, none⟩) (Kd.R_far (p := ⟨gb355, 0, none⟩) (Kd.R_types HO353.out BK355.out (by decide)) (fun _ hk => hk.2) (.slice Ao46 t348.length co46)) (fun _ hk => hk.2) (.slice Ao50 t351.length co50)) (fun _ h_ => h_.1))) hb); have n6_ := Aside0.mk (blk_below (g := gb334) (o := .cells #[.slice Ao8 t327.length co8, .slice Ao10 t330.length co10] 44 (0, 0)) (by (with_reducible repeat (first | refine blk_drewN ?_ _ | refine blk_drew ?_ | refine blk_alloc ?_ _)); refine blk_far ?_ NB334_355.out _; (with_reducible repeat (first | refine blk_drewN ?_ _ | refine blk_drew ?_ | refine blk_alloc ?_ _)); refine blk_far ?_ NB334_355.out _; (with_reducible repeat (first | refine blk_drewN ?_ _ | refine blk_drew ?_ | refine blk_alloc ?_ _)); exact BK334.out) hb); have n7_ := Aside0.mk (blk_below (g := gb342) (o := .cells #[.slice Ao13 t335.length co13, .slice Ao16 t338.length co16] 44 (0, 0)) (by (with_reducible repeat (first | refine blk_drewN ?_ _ | refine blk_drew ?_ | refine blk_alloc ?_ _)); refine blk_far ?_ NB342_355.out _; (with_reducible repeat (first | refine blk_drewN ?_ _ | refine blk_drew ?_ | refine blk_alloc ?_ _)); refine blk_far ?_ NB342_355.out _; (with_reducible repeat (first | refine blk_drewN ?_ _ | refine blk_drew ?_ | refine blk_alloc ?_ _)); exact BK342.out) hb); have n8_ := Aside0.mk (blk_below (g := gb355) (o := .cells #[.slice Ao46 t348.length co46, .slice Ao50 t351.length co50] 44 (0, 0)) (by (with_reducible repeat (first | refine blk_drewN ?_ _ | refine blk_drew ?_ | refine blk_alloc ?_ _)); refine blk_put (cs := #[.slice Ao46 t348.length co46, .slice none 0 0]) ?_ 1 _ rfl; (with_reducible repeat (first | refine blk_drewN ?_ _ | refine blk_drew ?_ | refine blk_alloc ?_ _)); refine blk_put (cs := #[.slice none 0 0, .slice none 0 0]) ?_ 0 _ rfl; (with_reducible repeat (first | refine blk_drewN ?_ _ | refine blk_drew ?_ | refine blk_alloc ?_ _)); exact BK355.out) hb); have n9_ := Aside0.mk (below_step (by repeat (first | (with_reducible first | exact HB.out | apply below_alloc | apply pw_below_drewN | apply below_drew1 | refine below_set ?_ GE334.out | refine below_set ?_ GE342.out | refine below_set ?_ GE355.out) | exact HB.out)) hb); clear HO_335000; clear HO_335001; clear HO_343000; clear HO_343001; clear HO350; clear HO353; clear BK334; clear BK342; clear BK355; clear HB; have HO_335000 := n0_; have HO_335001 := n1_; have HO_343000 := n2_; have HO_343001 := n3_; have HO350 := n4_; have HO353 := n5_; have BK334 := n6_; have BK342 := n7_; have BK355 := n8_; have HB := n9_; clear n0_ n1_ n2_ n3_ n4_ n5_ n6_ n7_ n8_ n9_; (try clear hb); (try clear hb2); (try clear hk); (try clear hi)))
                go_meet
                case rel => exact ⟨_, ((t354 != t333)), (by first | rfl | (simp; done) | (simp [*]; done)), H', ⟨by have := HJ4.out; first | omega | exact Nat.le_refl _⟩, ⟨by (with_reducible repeat (first | apply Kd.V_alloc | apply Kd.V_drewN | apply Kd.V_drew)); exact Kd.V_mono HO_335000.out (fun _ hk => ⟨hk.1.1.1.1, ⟨hk.1.1.1.2.1, ⟨hk.1.1.2, ⟨hk.1.2, ⟨hk.1.1.1.2.2.1, ⟨hk.1.1.1.2.2.2, hk.2⟩⟩⟩⟩⟩⟩)⟩, ⟨by (with_reducible repeat (first | apply Kd.V_alloc | apply Kd.V_drewN | apply Kd.V_drew)); exact Kd.V_mono HO_335001.out (fun _ hk => ⟨hk.1.1.1.1, ⟨hk.1.1.1.2.1, ⟨hk.1.1.2, ⟨hk.1.2, ⟨hk.1.1.1.2.2.1, ⟨hk.1.1.1.2.2.2, hk.2⟩⟩⟩⟩⟩⟩)⟩, ⟨by (with_reducible repeat (first | apply Kd.R_alloc | apply Kd.R_drewN | apply Kd.R_drew)); exact Kd.R_mono HO_343000.out (fun _ hk => ⟨hk.1.1, ⟨hk.1.2, hk.2⟩⟩)⟩, ⟨by (with_reducible repeat (first | apply Kd.R_alloc | apply Kd.R_drewN | apply Kd.R_drew)); exact Kd.R_mono HO_343001.out (fun _ hk => ⟨hk.1.1, ⟨hk.1.2, hk.2⟩⟩)⟩, ⟨by (with_reducible repeat (first | apply Kd.R_alloc | apply Kd.R_drewN | apply Kd.R_drew)); exact Kd.R_mono HO350.out (fun _ hk => ⟨hk.1.2, ⟨hk.2, hk.1.1⟩⟩)⟩, ⟨by (with_reducible repeat (first | apply Kd.R_alloc | apply Kd.R_drewN | apply Kd.R_drew)); exact Kd.R_mono HO353.out (fun _ hk => ⟨hk.1.2, ⟨hk.2, hk.1.1⟩⟩)⟩, ⟨by (with_reducible repeat (first | refine blk_drewN ?_ _ | refine blk_drew ?_ | refine blk_alloc ?_ _)); exact BK334.out⟩, ⟨by (with_reducible repeat (first | refine blk_drewN ?_ _ | refine blk_drew ?_ | refine blk_alloc ?_ _)); exact BK342.out⟩, ⟨by (with_reducible repeat (first | refine blk_drewN ?_ _ | refine blk_drew ?_ | refine blk_alloc ?_ _)); exact BK355.out⟩, ⟨by repeat (first | (with_reducible first | exact HB.out | apply below_alloc | apply pw_below_drewN | apply below_drew1 | refine below_set ?_ GE334.out | refine below_set ?_ GE342.out | refine below_set ?_ GE355.out) | exact HB.out)⟩⟩
              · replace c52 := Bool.eq_false_iff.mpr c52
                subst c52
                have H1 : (laws_FnExactMeanderWith.j1 kj4 t344 true t345 t346) = some r := by rw [if_neg (show ¬ (false = true) by decide)] at H; exact H
                rw [hr_] at H1; exact absurd H1 (laws_FnExactMeanderWith.j1_no _ _ _ _)
            case rest =>
              clear HC38
              try clear c1
              try clear c2
              try clear p2
              try clear c3
              try clear c4
              try clear c5
              try clear c6
              try clear c11
              try clear c14
              try clear c18
              try clear c19
              try clear c23
              try clear c27
              try clear c30
              try clear c30b0
              try clear c31
              try clear c36
              try clear c36b0
              try clear c36b1
              try clear c38
              try clear c39
              try clear c40
              try clear c41
              try clear c42
              try clear c47
              try clear c48
              try clear c52
              try clear c53
              try clear c54
              try clear c56
              try clear c59
              try clear c60
              try clear c62
              try clear hcz15_0
              try clear hcz15_1
              try clear hcz20_0
              try clear hcz20_1
              try clear hcz21_0
              try clear hcz21_1
              try clear hcz24_0
              try clear hcz24_1
              try clear hcz25_0
              try clear hcz25_1
              try clear hcz32_0
              try clear hcz32_1
              try clear hcz34_0
              try clear hcz34_1
              try clear hcz40_0
              try clear hcz40_1
              try clear hcz42_0
              try clear hcz42_1
              try clear hcz49_0
              try clear hcz49_1
              try clear hcz55_0
              try clear hcz55_1
              try clear hcz57_0
              try clear hcz57_1
              try clear hcz61_0
              try clear hcz61_1
              try clear hcz63_0
              try clear hcz63_1
              try clear hcz9_0
              try clear hcz9_1
              try clear hfz15_0
              try clear hfz15_1
              try clear hfz20_0
              try clear hfz20_1
              try clear hfz21_0
              try clear hfz21_1
              try clear hfz24_0
              try clear hfz24_1
              try clear hfz25_0
              try clear hfz25_1
              try clear hfz32_0
              try clear hfz32_1
              try clear hfz34_0
              try clear hfz34_1
              try clear hfz40_0
              try clear hfz40_1
              try clear hfz42_0
              try clear hfz42_1
              try clear hfz49_0
              try clear hfz49_1
              try clear hfz55_0
              try clear hfz55_1
              try clear hfz57_0
              try clear hfz57_1
              try clear hfz61_0
              try clear hfz61_1
              try clear hfz63_0
              try clear hfz63_1
              try clear hfz9_0
              try clear hfz9_1
              try clear p2
              obtain ⟨kq, x59_37, rfl, HA, HJ37, HO_335000, HO_335001, HO_343000, HO_343001, HO_356000, HO_356001, BK334, BK342, BK355, HB⟩ := hcut
              have hl343000_37 := (Kd.R_reads' HO_343000.out).1
              rw [hl343000_37] at HO_343000
              (try simp only [hl343000_37])
              (try simp only [hl343000_37] at BK334)
              (try simp only [hl343000_37] at BK342)
              (try simp only [hl343000_37] at BK355)
              (try simp only [hl343000_37] at HO_335000)
              (try simp only [hl343000_37] at HO_335001)
              (try simp only [hl343000_37] at HO_343001)
              (try simp only [hl343000_37] at HO_356000)
              (try simp only [hl343000_37] at HO_356001)
              have hl343001_37 := (Kd.R_reads' HO_343001.out).1
              rw [hl343001_37] at HO_343001
              (try simp only [hl343001_37])
              (try simp only [hl343001_37] at BK334)
              (try simp only [hl343001_37] at BK342)
              (try simp only [hl343001_37] at BK355)
              (try simp only [hl343001_37] at HO_335000)
              (try simp only [hl343001_37] at HO_335001)
              (try simp only [hl343001_37] at HO_343000)
              (try simp only [hl343001_37] at HO_356000)
              (try simp only [hl343001_37] at HO_356001)
              cases kq with
              | zero => exact absurd HA.out (by simp [laws_FnExactMeanderWith.j1])
              | succ kj37 =>
                have H := HA.out
                clear HA
                simp only [laws_FnExactMeanderWith.j1] at H
                by_cases c65 : x59_37 = true
                · subst c65
                  have H1 : (some false) = some r := by rw [if_pos rfl] at H; exact H
                  rw [hr_] at H1; exact absurd H1 (by decide)
                · replace c65 := Bool.eq_false_iff.mpr c65
                  subst c65
                  have H1 : ((laws_heldMeander.f kj37 t345 t346 1).bind fun t357 => (if t357 < 0 then (some false) else (if t357 = t344 then (some true) else (some false)))) = some r := by rw [if_neg (show ¬ (false = true) by decide)] at H; exact H
                  clear H
                  have H := H1
                  clear H1
                  replace H := Option.bind_eq_some_iff.mp H
                  obtain ⟨t357, A660, H⟩ := H
                  replace H : (if t357 < 0 then (some false) else (if t357 = t344 then (some true) else (some false))) = some r := H
                  have A66 := Aside0.mk A660
                  clear A660
                  by_cases c67 : t357 < 0
                  · rw [if_pos c67] at H
                    have c67b0 : decide (t357 < 0) = true := decide_eq_true c67
                    clear c67
                    obtain rfl := Option.some.inj H
                    have hnb68 := NB342_334.out
                    have hnc68 := NB334_342.out
                    have hnb69 := NB342_355.out
                    have hnc69 := NB355_342.out
                    have hcz70_0 : wc.cell? ⟨gb342, 0, none⟩ = some (.slice Ao13 t345.length co13) := (blk_cell BK342.out 0).trans rfl
                    have hcz70_1 : wc.cell? ⟨gb342, 1, none⟩ = some (.slice Ao16 t346.length co16) := (blk_cell BK342.out 1).trans rfl
                    have hfz70_0 := blk_frozen BK342.out 0
                    have hfz70_1 := blk_frozen BK342.out 1
                    go_wp2_with (first | ((with_reducible refine gate_callee (f := 42) rfl ?_); refine goesL_ (some 62) rfl rfl Try.func42 (by kernel_rfl) rfl #[.agg #[.slice Ao13 t345.length co13, .slice Ao16 t346.length co16], .int .i64 1] rfl (by (try simp only [List.map_toArray, List.map_cons, List.map_nil]); first | done | rfl | (simp only [List.length_drop, List.length_take]; rfl)) ?_; (with_reducible refine (laws_heldMeander.calls kj37 _ _ t345 _ _ t346 1 t357 _ ?side1 ?side2 ?side3 ?side4 A66.out).mono ?_); (case side1 => repeat (first | exact (Kd.R_reads' HO_343000.out).2.2 | (with_reducible refine Kd.C_alloc ?_ _) | (with_reducible refine Kd.C_drewN ?_ _) | (with_reducible refine Kd.C_drew ?_))); (case side2 => exact (Kd.R_reads' HO_343000.out).2.1); (case side3 => repeat (first | exact (Kd.R_reads' HO_343001.out).2.2 | (with_reducible refine Kd.C_alloc ?_ _) | (with_reducible refine Kd.C_drewN ?_ _) | (with_reducible refine Kd.C_drew ?_))); (case side4 => exact (Kd.R_reads' HO_343001.out).2.1); rintro e w71 ⟨rfl, hb⟩; refine ⟨_, rfl, ?_⟩; have n0_ := Aside0.mk (Kd.V_below (by (with_reducible repeat (first | apply Kd.V_alloc | apply Kd.V_drewN | apply Kd.V_drew)); exact HO_335000.out) hb); have n1_ := Aside0.mk (Kd.V_below (by (with_reducible repeat (first | apply Kd.V_alloc | apply Kd.V_drewN | apply Kd.V_drew)); exact HO_335001.out) hb); have n2_ := Aside0.mk (Kd.R_below (by (with_reducible repeat (first | apply Kd.R_alloc | apply Kd.R_drewN | apply Kd.R_drew)); exact HO_343000.out) hb); have n3_ := Aside0.mk (Kd.R_below (by (with_reducible repeat (first | apply Kd.R_alloc | apply Kd.R_drewN | apply Kd.R_drew)); exact HO_343001.out) hb); have n4_ := Aside0.mk (Kd.R_below (by (with_reducible repeat (first | apply Kd.R_alloc | apply Kd.R_drewN | apply Kd.R_drew)); exact HO_356000.out) hb); have n5_ := Aside0.mk (Kd.R_below (by (with_reducible repeat (first | apply Kd.R_alloc | apply Kd.R_drewN | apply Kd.R_drew)); exact HO_356001.out) hb); have n6_ := Aside0.mk (blk_below (g := gb334) (o := .cells #[.slice Ao8 t327.length co8, .slice Ao10 t330.length co10] 44 (0, 0)) (by (with_reducible repeat (first | refine blk_drewN ?_ _ | refine blk_drew ?_ | refine blk_alloc ?_ _)); exact BK334.out) hb); have n7_ := Aside0.mk (blk_below (g := gb342) (o := .cells #[.slice Ao13 t345.length co13, .slice Ao16 t346.length co16] 44 (0, 0)) (by (with_reducible repeat (first | refine blk_drewN ?_ _ | refine blk_drew ?_ | refine blk_alloc ?_ _)); exact BK342.out) hb); have n8_ := Aside0.mk (blk_below (g := gb355) (o := .cells #[.slice Ao46 t348.length co46, .slice Ao50 t351.length co50] 44 (0, 0)) (by (with_reducible repeat (first | refine blk_drewN ?_ _ | refine blk_drew ?_ | refine blk_alloc ?_ _)); exact BK355.out) hb); have n9_ := Aside0.mk (below_step (by repeat (first | (with_reducible first | exact HB.out | apply below_alloc | apply pw_below_drewN | apply below_drew1 | refine below_set ?_ GE334.out | refine below_set ?_ GE342.out | refine below_set ?_ GE355.out) | exact HB.out)) hb); clear HO_335000; clear HO_335001; clear HO_343000; clear HO_343001; clear HO_356000; clear HO_356001; clear BK334; clear BK342; clear BK355; clear HB; have HO_335000 := n0_; have HO_335001 := n1_; have HO_343000 := n2_; have HO_343001 := n3_; have HO_356000 := n4_; have HO_356001 := n5_; have BK334 := n6_; have BK342 := n7_; have BK355 := n8_; have HB := n9_; clear n0_ n1_ n2_ n3_ n4_ n5_ n6_ n7_ n8_ n9_; (try clear hb); (try clear hb2); (try clear hk); (try clear hi)))
                    go_ret
                    exact ⟨by first | rfl | (simp [errW_none, errW_some] <;> rfl) | (simp [*, errW_none, errW_some] <;> rfl), by repeat (first | (with_reducible first | exact HB.out | apply below_alloc | apply pw_below_drewN | apply below_drew1 | refine below_set ?_ GE334.out | refine below_set ?_ GE342.out | refine below_set ?_ GE355.out) | exact HB.out)⟩
                  · rw [if_neg c67] at H
                    have c67b0 : decide (t357 < 0) = false := decide_eq_false c67
                    clear c67
                    by_cases c72 : t357 = t344
                    · rw [if_pos c72] at H
                      have c72b0 : (t357 == t344) = true := beq_iff_eq.mpr c72
                      have c72b1 : (t357 != t344) = false := bne_eq_false_iff_eq.mpr c72
                      clear c72
                      obtain rfl := Option.some.inj H
                      have hnb73 := NB342_334.out
                      have hnc73 := NB334_342.out
                      have hnb74 := NB342_355.out
                      have hnc74 := NB355_342.out
                      have hcz75_0 : wc.cell? ⟨gb342, 0, none⟩ = some (.slice Ao13 t345.length co13) := (blk_cell BK342.out 0).trans rfl
                      have hcz75_1 : wc.cell? ⟨gb342, 1, none⟩ = some (.slice Ao16 t346.length co16) := (blk_cell BK342.out 1).trans rfl
                      have hfz75_0 := blk_frozen BK342.out 0
                      have hfz75_1 := blk_frozen BK342.out 1
                      go_wp2_with (first | ((with_reducible refine gate_callee (f := 42) rfl ?_); refine goesL_ (some 62) rfl rfl Try.func42 (by kernel_rfl) rfl #[.agg #[.slice Ao13 t345.length co13, .slice Ao16 t346.length co16], .int .i64 1] rfl (by (try simp only [List.map_toArray, List.map_cons, List.map_nil]); first | done | rfl | (simp only [List.length_drop, List.length_take]; rfl)) ?_; (with_reducible refine (laws_heldMeander.calls kj37 _ _ t345 _ _ t346 1 t357 _ ?side1 ?side2 ?side3 ?side4 A66.out).mono ?_); (case side1 => repeat (first | exact (Kd.R_reads' HO_343000.out).2.2 | (with_reducible refine Kd.C_alloc ?_ _) | (with_reducible refine Kd.C_drewN ?_ _) | (with_reducible refine Kd.C_drew ?_))); (case side2 => exact (Kd.R_reads' HO_343000.out).2.1); (case side3 => repeat (first | exact (Kd.R_reads' HO_343001.out).2.2 | (with_reducible refine Kd.C_alloc ?_ _) | (with_reducible refine Kd.C_drewN ?_ _) | (with_reducible refine Kd.C_drew ?_))); (case side4 => exact (Kd.R_reads' HO_343001.out).2.1); rintro e w76 ⟨rfl, hb⟩; refine ⟨_, rfl, ?_⟩; have n0_ := Aside0.mk (Kd.V_below (by (with_reducible repeat (first | apply Kd.V_alloc | apply Kd.V_drewN | apply Kd.V_drew)); exact HO_335000.out) hb); have n1_ := Aside0.mk (Kd.V_below (by (with_reducible repeat (first | apply Kd.V_alloc | apply Kd.V_drewN | apply Kd.V_drew)); exact HO_335001.out) hb); have n2_ := Aside0.mk (Kd.R_below (by (with_reducible repeat (first | apply Kd.R_alloc | apply Kd.R_drewN | apply Kd.R_drew)); exact HO_343000.out) hb); have n3_ := Aside0.mk (Kd.R_below (by (with_reducible repeat (first | apply Kd.R_alloc | apply Kd.R_drewN | apply Kd.R_drew)); exact HO_343001.out) hb); have n4_ := Aside0.mk (Kd.R_below (by (with_reducible repeat (first | apply Kd.R_alloc | apply Kd.R_drewN | apply Kd.R_drew)); exact HO_356000.out) hb); have n5_ := Aside0.mk (Kd.R_below (by (with_reducible repeat (first | apply Kd.R_alloc | apply Kd.R_drewN | apply Kd.R_drew)); exact HO_356001.out) hb); have n6_ := Aside0.mk (blk_below (g := gb334) (o := .cells #[.slice Ao8 t327.length co8, .slice Ao10 t330.length co10] 44 (0, 0)) (by (with_reducible repeat (first | refine blk_drewN ?_ _ | refine blk_drew ?_ | refine blk_alloc ?_ _)); exact BK334.out) hb); have n7_ := Aside0.mk (blk_below (g := gb342) (o := .cells #[.slice Ao13 t345.length co13, .slice Ao16 t346.length co16] 44 (0, 0)) (by (with_reducible repeat (first | refine blk_drewN ?_ _ | refine blk_drew ?_ | refine blk_alloc ?_ _)); exact BK342.out) hb); have n8_ := Aside0.mk (blk_below (g := gb355) (o := .cells #[.slice Ao46 t348.length co46, .slice Ao50 t351.length co50] 44 (0, 0)) (by (with_reducible repeat (first | refine blk_drewN ?_ _ | refine blk_drew ?_ | refine blk_alloc ?_ _)); exact BK355.out) hb); have n9_ := Aside0.mk (below_step (by repeat (first | (with_reducible first | exact HB.out | apply below_alloc | apply pw_below_drewN | apply below_drew1 | refine below_set ?_ GE334.out | refine below_set ?_ GE342.out | refine below_set ?_ GE355.out) | exact HB.out)) hb); clear HO_335000; clear HO_335001; clear HO_343000; clear HO_343001; clear HO_356000; clear HO_356001; clear BK334; clear BK342; clear BK355; clear HB; have HO_335000 := n0_; have HO_335001 := n1_; have HO_343000 := n2_; have HO_343001 := n3_; have HO_356000 := n4_; have HO_356001 := n5_; have BK334 := n6_; have BK342 := n7_; have BK355 := n8_; have HB := n9_; clear n0_ n1_ n2_ n3_ n4_ n5_ n6_ n7_ n8_ n9_; (try clear hb); (try clear hb2); (try clear hk); (try clear hi)))
                      go_ret
                      exact ⟨by first | rfl | (simp [errW_none, errW_some] <;> rfl) | (simp [*, errW_none, errW_some] <;> rfl), by repeat (first | (with_reducible first | exact HB.out | apply below_alloc | apply pw_below_drewN | apply below_drew1 | refine below_set ?_ GE334.out | refine below_set ?_ GE342.out | refine below_set ?_ GE355.out) | exact HB.out)⟩
                    · rw [if_neg c72] at H
                      have c72b0 : (t357 == t344) = false := beq_eq_false_iff_ne.mpr c72
                      have c72b1 : (t357 != t344) = true := bne_iff_ne.mpr c72
                      obtain rfl := Option.some.inj H
                      have hnb77 := NB342_334.out
                      have hnc77 := NB334_342.out
                      have hnb78 := NB342_355.out
                      have hnc78 := NB355_342.out
                      have hcz79_0 : wc.cell? ⟨gb342, 0, none⟩ = some (.slice Ao13 t345.length co13) := (blk_cell BK342.out 0).trans rfl
                      have hcz79_1 : wc.cell? ⟨gb342, 1, none⟩ = some (.slice Ao16 t346.length co16) := (blk_cell BK342.out 1).trans rfl
                      have hfz79_0 := blk_frozen BK342.out 0
                      have hfz79_1 := blk_frozen BK342.out 1
                      go_wp2_with (first | ((with_reducible refine gate_callee (f := 42) rfl ?_); refine goesL_ (some 62) rfl rfl Try.func42 (by kernel_rfl) rfl #[.agg #[.slice Ao13 t345.length co13, .slice Ao16 t346.length co16], .int .i64 1] rfl (by (try simp only [List.map_toArray, List.map_cons, List.map_nil]); first | done | rfl | (simp only [List.length_drop, List.length_take]; rfl)) ?_; (with_reducible refine (laws_heldMeander.calls kj37 _ _ t345 _ _ t346 1 t357 _ ?side1 ?side2 ?side3 ?side4 A66.out).mono ?_); (case side1 => repeat (first | exact (Kd.R_reads' HO_343000.out).2.2 | (with_reducible refine Kd.C_alloc ?_ _) | (with_reducible refine Kd.C_drewN ?_ _) | (with_reducible refine Kd.C_drew ?_))); (case side2 => exact (Kd.R_reads' HO_343000.out).2.1); (case side3 => repeat (first | exact (Kd.R_reads' HO_343001.out).2.2 | (with_reducible refine Kd.C_alloc ?_ _) | (with_reducible refine Kd.C_drewN ?_ _) | (with_reducible refine Kd.C_drew ?_))); (case side4 => exact (Kd.R_reads' HO_343001.out).2.1); rintro e w80 ⟨rfl, hb⟩; refine ⟨_, rfl, ?_⟩; have n0_ := Aside0.mk (Kd.V_below (by (with_reducible repeat (first | apply Kd.V_alloc | apply Kd.V_drewN | apply Kd.V_drew)); exact HO_335000.out) hb); have n1_ := Aside0.mk (Kd.V_below (by (with_reducible repeat (first | apply Kd.V_alloc | apply Kd.V_drewN | apply Kd.V_drew)); exact HO_335001.out) hb); have n2_ := Aside0.mk (Kd.R_below (by (with_reducible repeat (first | apply Kd.R_alloc | apply Kd.R_drewN | apply Kd.R_drew)); exact HO_343000.out) hb); have n3_ := Aside0.mk (Kd.R_below (by (with_reducible repeat (first | apply Kd.R_alloc | apply Kd.R_drewN | apply Kd.R_drew)); exact HO_343001.out) hb); have n4_ := Aside0.mk (Kd.R_below (by (with_reducible repeat (first | apply Kd.R_alloc | apply Kd.R_drewN | apply Kd.R_drew)); exact HO_356000.out) hb); have n5_ := Aside0.mk (Kd.R_below (by (with_reducible repeat (first | apply Kd.R_alloc | apply Kd.R_drewN | apply Kd.R_drew)); exact HO_356001.out) hb); have n6_ := Aside0.mk (blk_below (g := gb334) (o := .cells #[.slice Ao8 t327.length co8, .slice Ao10 t330.length co10] 44 (0, 0)) (by (with_reducible repeat (first | refine blk_drewN ?_ _ | refine blk_drew ?_ | refine blk_alloc ?_ _)); exact BK334.out) hb); have n7_ := Aside0.mk (blk_below (g := gb342) (o := .cells #[.slice Ao13 t345.length co13, .slice Ao16 t346.length co16] 44 (0, 0)) (by (with_reducible repeat (first | refine blk_drewN ?_ _ | refine blk_drew ?_ | refine blk_alloc ?_ _)); exact BK342.out) hb); have n8_ := Aside0.mk (blk_below (g := gb355) (o := .cells #[.slice Ao46 t348.length co46, .slice Ao50 t351.length co50] 44 (0, 0)) (by (with_reducible repeat (first | refine blk_drewN ?_ _ | refine blk_drew ?_ | refine blk_alloc ?_ _)); exact BK355.out) hb); have n9_ := Aside0.mk (below_step (by repeat (first | (with_reducible first | exact HB.out | apply below_alloc | apply pw_below_drewN | apply below_drew1 | refine below_set ?_ GE334.out | refine below_set ?_ GE342.out | refine below_set ?_ GE355.out) | exact HB.out)) hb); clear HO_335000; clear HO_335001; clear HO_343000; clear HO_343001; clear HO_356000; clear HO_356001; clear BK334; clear BK342; clear BK355; clear HB; have HO_335000 := n0_; have HO_335001 := n1_; have HO_343000 := n2_; have HO_343001 := n3_; have HO_356000 := n4_; have HO_356001 := n5_; have BK334 := n6_; have BK342 := n7_; have BK355 := n8_; have HB := n9_; clear n0_ n1_ n2_ n3_ n4_ n5_ n6_ n7_ n8_ n9_; (try clear hb); (try clear hb2); (try clear hk); (try clear hi)))
                      go_ret
                      exact ⟨by first | rfl | (simp [errW_none, errW_some] <;> rfl) | (simp [*, errW_none, errW_some] <;> rfl), by repeat (first | (with_reducible first | exact HB.out | apply below_alloc | apply pw_below_drewN | apply below_drew1 | refine below_set ?_ GE334.out | refine below_set ?_ GE342.out | refine below_set ?_ GE355.out) | exact HB.out)⟩
          · rw [if_neg c36] at H
            have c36b0 : (t347 == t344) = false := beq_eq_false_iff_ne.mpr c36
            have c36b1 : (t347 != t344) = true := bne_iff_ne.mpr c36
            obtain rfl := Option.some.inj H
            have hnb81 := NB342_334.out
            have hnc81 := NB334_342.out
            have hcz82_0 : wc.cell? ⟨gb342, 0, none⟩ = some (.slice Ao13 t335.length co13) := (blk_cell BK342.out 0).trans rfl
            have hcz82_1 : wc.cell? ⟨gb342, 1, none⟩ = some (.slice Ao16 t338.length co16) := (blk_cell BK342.out 1).trans rfl
            have hfz82_0 := blk_frozen BK342.out 0
            have hfz82_1 := blk_frozen BK342.out 1
            go_wp2_with (first | ((with_reducible refine gate_callee (f := 41) rfl ?_); refine goesL_ (some 36) rfl rfl Try.func41 (by kernel_rfl) rfl #[.agg #[.slice Ao13 t335.length co13, .slice Ao16 t338.length co16], .int .i64 1] rfl (by (try simp only [List.map_toArray, List.map_cons, List.map_nil]); first | done | rfl | (simp only [List.length_drop, List.length_take]; rfl)) ?_; (with_reducible refine (laws_markMeander.calls kj4 (fun k_ => some k_ = (.slice Ao13 t335.length co13 : Value).ownBlock) (.slice Ao13 t335.length co13) t335 (fun k_ => some k_ = (.slice Ao16 t338.length co16 : Value).ownBlock) (.slice Ao16 t338.length co16) t338 1 t344 t345 t346 w _ ?side1 ?side2 ?side3 ?side4 ?side5 A28.out).mono ?_); (case side1 => repeat (first | (with_reducible first | exact HB.out | apply below_alloc | apply pw_below_drewN | apply below_drew1 | refine below_set ?_ GE334.out | refine below_set ?_ GE342.out) | exact HB.out)); (case side2 => exact Kd.R_tight rfl HO_343000.out); (case side3 => exact fun k_ e_ => (HO_343000.out.1 k_ e_.symm)); (case side4 => exact Kd.R_tight rfl HO_343001.out); (case side5 => exact fun k_ e_ => (HO_343001.out.1 k_ e_.symm)); rintro e w83 ⟨rfl, hy0, hy1, hb, hkp⟩; refine ⟨_, rfl, ?_⟩; have n0_ := Aside0.mk (Kd.V_mono (ok' := fun k_ => some k_ ≠ (.slice Ao13 t335.length co13 : Value).ownBlock ∧ some k_ ≠ (.slice Ao16 t338.length co16 : Value).ownBlock ∧ k_ ≠ gb334 ∧ k_ ≠ gb342) (Kd.V_keptB (HO_335000.out) hkp (fun k_ hk_ hs_ => Or.elim hs_ (fun e_ => (hk_.1) e_) (fun e_ => (hk_.2.1) e_))) (fun k_ hk_ => ⟨hk_.1.1, hk_.1.2.1, hk_.1.2.2.1, hk_.1.2.2.2⟩)); have n1_ := Aside0.mk (Kd.V_mono (ok' := fun k_ => some k_ ≠ (.slice Ao13 t335.length co13 : Value).ownBlock ∧ some k_ ≠ (.slice Ao16 t338.length co16 : Value).ownBlock ∧ k_ ≠ gb334 ∧ k_ ≠ gb342) (Kd.V_keptB (HO_335001.out) hkp (fun k_ hk_ hs_ => Or.elim hs_ (fun e_ => (hk_.1) e_) (fun e_ => (hk_.2.1) e_))) (fun k_ hk_ => ⟨hk_.1.1, hk_.1.2.1, hk_.1.2.2.1, hk_.1.2.2.2⟩)); have n2_ := Aside0.mk (Kd.R_reok rfl hy0 (fun k_ e_ => HO_343000.out.1 k_ e_)); have n3_ := Aside0.mk (Kd.R_reok rfl hy1 (fun k_ e_ => HO_343001.out.1 k_ e_)); have n4_ := Aside0.mk (blk_kept (by (with_reducible repeat (first | refine blk_drewN ?_ _ | refine blk_drew ?_ | refine blk_alloc ?_ _)); exact BK334.out) hkp (fun hs_ => Or.elim hs_ (fun e_ => (fun e_ => (Kd.R_ne HO_343000.out BK334.out (by decide)) e_) e_) (fun e_ => (fun e_ => (Kd.R_ne HO_343001.out BK334.out (by decide)) e_) e_))); have n5_ := Aside0.mk (blk_kept (by (with_reducible repeat (first | refine blk_drewN ?_ _ | refine blk_drew ?_ | refine blk_alloc ?_ _)); exact BK342.out) hkp (fun hs_ => Or.elim hs_ (fun e_ => (fun e_ => (Kd.R_ne HO_343000.out BK342.out (by decide)) e_) e_) (fun e_ => (fun e_ => (Kd.R_ne HO_343001.out BK342.out (by decide)) e_) e_))); have n6_ := Aside0.mk (hb); clear HO_335000; clear HO_335001; clear HO_343000; clear HO_343001; clear BK334; clear BK342; clear HB; have HO_335000 := n0_; have HO_335001 := n1_; have HO_343000 := n2_; have HO_343001 := n3_; have BK334 := n4_; have BK342 := n5_; have HB := n6_; clear n0_ n1_ n2_ n3_ n4_ n5_ n6_; (try clear hb); (try clear hkp); (try clear hy0); (try clear hy1); have hcz84_0 : w83.cell? ⟨gb342, 0, none⟩ = some (.slice Ao13 t335.length co13) := (blk_cell BK342.out 0).trans rfl; have hcz84_1 : w83.cell? ⟨gb342, 1, none⟩ = some (.slice Ao16 t338.length co16) := (blk_cell BK342.out 1).trans rfl; have hfz84_0 := blk_frozen BK342.out 0; have hfz84_1 := blk_frozen BK342.out 1) | ((with_reducible refine gate_callee (f := 42) rfl ?_); refine goesL_ (some 39) rfl rfl Try.func42 (by kernel_rfl) rfl #[.agg #[.slice Ao13 t345.length co13, .slice Ao16 t346.length co16], .int .i64 1] rfl (by (try simp only [List.map_toArray, List.map_cons, List.map_nil]); first | done | (rw [show t345.length = t335.length from (Kd.R_reads' HO_343000.out).1.symm, show t346.length = t338.length from (Kd.R_reads' HO_343001.out).1.symm] <;> rfl) | rfl | (simp only [List.length_drop, List.length_take]; rfl)) ?_; (with_reducible refine (laws_heldMeander.calls kj4 _ _ t345 _ _ t346 1 t347 _ ?side1 ?side2 ?side3 ?side4 A29.out).mono ?_); (case side1 => repeat (first | exact (Kd.R_reads' HO_343000.out).2.2 | (with_reducible refine Kd.C_alloc ?_ _) | (with_reducible refine Kd.C_drewN ?_ _) | (with_reducible refine Kd.C_drew ?_))); (case side2 => rw [show t345.length = t335.length from (Kd.R_reads' HO_343000.out).1.symm]; exact (Kd.R_reads' HO_343000.out).2.1); (case side3 => repeat (first | exact (Kd.R_reads' HO_343001.out).2.2 | (with_reducible refine Kd.C_alloc ?_ _) | (with_reducible refine Kd.C_drewN ?_ _) | (with_reducible refine Kd.C_drew ?_))); (case side4 => rw [show t346.length = t338.length from (Kd.R_reads' HO_343001.out).1.symm]; exact (Kd.R_reads' HO_343001.out).2.1); rintro e w85 ⟨rfl, hb⟩; refine ⟨_, rfl, ?_⟩; have n0_ := Aside0.mk (Kd.V_below (by (with_reducible repeat (first | apply Kd.V_alloc | apply Kd.V_drewN | apply Kd.V_drew)); exact HO_335000.out) hb); have n1_ := Aside0.mk (Kd.V_below (by (with_reducible repeat (first | apply Kd.V_alloc | apply Kd.V_drewN | apply Kd.V_drew)); exact HO_335001.out) hb); have n2_ := Aside0.mk (Kd.R_below (by (with_reducible repeat (first | apply Kd.R_alloc | apply Kd.R_drewN | apply Kd.R_drew)); exact HO_343000.out) hb); have n3_ := Aside0.mk (Kd.R_below (by (with_reducible repeat (first | apply Kd.R_alloc | apply Kd.R_drewN | apply Kd.R_drew)); exact HO_343001.out) hb); have n4_ := Aside0.mk (blk_below (g := gb334) (o := .cells #[.slice Ao8 t327.length co8, .slice Ao10 t330.length co10] 44 (0, 0)) (by (with_reducible repeat (first | refine blk_drewN ?_ _ | refine blk_drew ?_ | refine blk_alloc ?_ _)); exact BK334.out) hb); have n5_ := Aside0.mk (blk_below (g := gb342) (o := .cells #[.slice Ao13 t335.length co13, .slice Ao16 t338.length co16] 44 (0, 0)) (by (with_reducible repeat (first | refine blk_drewN ?_ _ | refine blk_drew ?_ | refine blk_alloc ?_ _)); exact BK342.out) hb); have n6_ := Aside0.mk (below_step (by repeat (first | (with_reducible first | exact HB.out | apply below_alloc | apply pw_below_drewN | apply below_drew1 | refine below_set ?_ GE334.out | refine below_set ?_ GE342.out) | exact HB.out)) hb); clear HO_335000; clear HO_335001; clear HO_343000; clear HO_343001; clear BK334; clear BK342; clear HB; have HO_335000 := n0_; have HO_335001 := n1_; have HO_343000 := n2_; have HO_343001 := n3_; have BK334 := n4_; have BK342 := n5_; have HB := n6_; clear n0_ n1_ n2_ n3_ n4_ n5_ n6_; (try clear hb); (try clear hb2); (try clear hk); (try clear hi)))
            go_ret
            exact ⟨by first | rfl | (simp [errW_none, errW_some] <;> rfl) | (simp [*, errW_none, errW_some] <;> rfl), by repeat (first | (with_reducible first | exact HB.out | apply below_alloc | apply pw_below_drewN | apply below_drew1 | refine below_set ?_ GE334.out | refine below_set ?_ GE342.out) | exact HB.out)⟩

/-- THE ONE PURE STATEMENT of laws_FnExactMeanderWith. -/
def laws_FnExactMeanderWith.Pure : Prop := ∀ (a0 : Int) (a1 : Int), (Lit.int .i64 a0).wf = true → (Lit.int .i64 a1).wf = true → ∃ k, laws_FnExactMeanderWith.f k a0 a1 = some true
theorem laws_FnExactMeanderWith.walk (P : laws_FnExactMeanderWith.Pure) (a0 : Int) (a1 : Int) (w : World) (w0 : (Lit.int .i64 a0).wf = true) (w1 : (Lit.int .i64 a1).wf = true) :
    Calls Try.prog 11 #[.int .i64 a0, .int .i64 a1] w fun e w' => e = .returned (.bool true) ∧ Below w.heap.size w w' := by
  obtain ⟨k, h⟩ := P a0 a1 w0 w1
  refine (laws_FnExactMeanderWith.calls k a0 a1 true w rfl h).mono ?_
  rintro e w' ⟨rfl, hd⟩
  exact ⟨rfl, hd⟩

end Go.Proofs.Ytpepnlcelllhkaa.QFnExactMeanderWith
