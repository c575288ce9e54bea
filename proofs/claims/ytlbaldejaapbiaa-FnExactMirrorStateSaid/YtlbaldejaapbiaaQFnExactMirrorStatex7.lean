-- Written by wip/myprint.py (a program of mine round the kit's printer). Lean checks it.
import Derived.Test.YtlbaldejaapbiaaQFnExactMirrorStatex0
import Derived.Test.YtlbaldejaapbiaaQFnExactMirrorStatex1
import Derived.Test.YtlbaldejaapbiaaQFnExactMirrorStatex3
import Derived.Test.YtlbaldejaapbiaaQFnExactMirrorStatex6
namespace Go.Proofs.Ytlbaldejaapbiaa.QFnExactMirrorState
open Go.RowKit Go.Proofs.YtlbaldejaapbiaaW.PrintWords Go.Proofs.YtlbaldejaapbiaaW.PrintLast Go.Proofs.YtlbaldejaapbiaaW.PrintMore
attribute [local go_sem] max2_int min2_int max_two min_two max_three min_three max_four min_four   -- for this text's walks alone
set_option linter.unusedVariables false
set_option linter.unusedSimpArgs false

/-! ### laws_FnExactMirrorState: function 5 -/
mutual
def laws_FnExactMirrorState.j0 : Nat → Bool → Bool → Bool → List Int → List Int → Int → List Int → List Int → Int → List Int → List Int → Int → List Int → List Int → Int → Option (Bool)
  | 0, _, _, _, _, _, _, _, _, _, _, _, _, _, _, _ => none
  | k + 1, x5, x8, x40, x251000, x251001, x251002, x268000, x268001, x268002, x276000, x276001, x276002, x285000, x285001, x285002 => if x40 = true then (some false) else ((laws_toState.f k x251000 x251001 x251002).bind fun bt286 => ((laws_eqState.f k x276000 x276001 x276002 bt286.1 bt286.2.1 bt286.2.2).bind fun t293 => (if t293 = true then ((laws_markState.f k x276000 x276001 x276002 1).bind fun bt294 => (if bt294.1 < 0 then (laws_FnExactMirrorState.j1 k x5 true x251000 x251001 x251002 x268000 x268001 x268002 x285000 x285001 x285002) else ((laws_eqState.f k x285000 x285001 x285002 x268000 x268001 x268002).bind fun t297 => (if t297 = true then (laws_FnExactMirrorState.j1 k x5 (x8 != x5) x251000 x251001 x251002 x268000 x268001 x268002 x285000 x285001 x285002) else (laws_FnExactMirrorState.j1 k x5 true x251000 x251001 x251002 x268000 x268001 x268002 x285000 x285001 x285002))))) else (some false))))
def laws_FnExactMirrorState.j1 : Nat → Bool → Bool → List Int → List Int → Int → List Int → List Int → Int → List Int → List Int → Int → Option (Bool)
  | 0, _, _, _, _, _, _, _, _, _, _, _ => none
  | k + 1, x5, x61, x251000, x251001, x251002, x268000, x268001, x268002, x285000, x285001, x285002 => if x61 = true then (some false) else ((laws_markState.f k x285000 x285001 x285002 1).bind fun bt298 => ((laws_heldState.f k bt298.2.1 bt298.2.2 x285002 1).bind fun t301 => (if t301 < 0 then (some false) else (if t301 = bt298.1 then ((laws_toState.f k x251000 x251001 x251002).bind fun bt302 => ((impl_MirrorState.f k bt302.1 bt302.2.1 bt302.2.2).bind fun bt309 => ((laws_eqState.f k bt309.1 bt309.2.1 bt309.2.2.1 x268000 x268001 x268002).bind fun t318 => (if t318 = true then (laws_FnExactMirrorState.j2 k bt298.1 (bt309.2.2.2 != x5) bt298.2.1 bt298.2.2 x285002) else (laws_FnExactMirrorState.j2 k bt298.1 true bt298.2.1 bt298.2.2 x285002))))) else (some false)))))
def laws_FnExactMirrorState.j2 : Nat → Int → Bool → List Int → List Int → Int → Option (Bool)
  | 0, _, _, _, _, _ => none
  | k + 1, x10, x87, x285000, x285001, x285002 => if x87 = true then (some false) else ((laws_heldState.f k x285000 x285001 x285002 1).bind fun t319 => (if t319 < 0 then (some false) else (if t319 = x10 then (some true) else (some false))))
end
def laws_FnExactMirrorState.f (k : Nat) (l0_0 : List Int) (l0_1 : List Int) (a0_2 : Int) : Option (Bool) := (laws_szState.f l0_0 l0_1 a0_2 1048576).bind fun t251 => (if t251 < 0 then (some true) else ((laws_toState.f k l0_0 l0_1 a0_2).bind fun bt252 => ((spec_MirrorState.f k bt252.1 bt252.2.1 bt252.2.2).bind fun bt259 => ((laws_toState.f k l0_0 l0_1 a0_2).bind fun bt268 => ((impl_MirrorState.f k bt268.1 bt268.2.1 bt268.2.2).bind fun bt276 => ((laws_eqState.f k bt276.1 bt276.2.1 bt276.2.2.1 bt259.1 bt259.2.1 bt259.2.2.1).bind fun t285 => (if t285 = true then (laws_FnExactMirrorState.j0 k bt259.2.2.2 bt276.2.2.2 (bt276.2.2.2 != bt259.2.2.2) l0_0 l0_1 a0_2 bt259.1 bt259.2.1 bt259.2.2.1 bt268.1 bt268.2.1 bt268.2.2 bt276.1 bt276.2.1 bt276.2.2.1) else (laws_FnExactMirrorState.j0 k bt259.2.2.2 bt276.2.2.2 true l0_0 l0_1 a0_2 bt259.1 bt259.2.1 bt259.2.2.1 bt268.1 bt268.2.1 bt268.2.2 bt276.1 bt276.2.1 bt276.2.2.1))))))))
theorem laws_FnExactMirrorState.mono_l : ∀ k, (∀ y0 y1 y2 y3 y4 y5 y6 y7 y8 y9 y10 y11 y12 y13 y14, LeO (laws_FnExactMirrorState.j0 k y0 y1 y2 y3 y4 y5 y6 y7 y8 y9 y10 y11 y12 y13 y14) (laws_FnExactMirrorState.j0 (k + 1) y0 y1 y2 y3 y4 y5 y6 y7 y8 y9 y10 y11 y12 y13 y14)) ∧ (∀ y0 y1 y2 y3 y4 y5 y6 y7 y8 y9 y10, LeO (laws_FnExactMirrorState.j1 k y0 y1 y2 y3 y4 y5 y6 y7 y8 y9 y10) (laws_FnExactMirrorState.j1 (k + 1) y0 y1 y2 y3 y4 y5 y6 y7 y8 y9 y10)) ∧ (∀ y0 y1 y2 y3 y4, LeO (laws_FnExactMirrorState.j2 k y0 y1 y2 y3 y4) (laws_FnExactMirrorState.j2 (k + 1) y0 y1 y2 y3 y4))
  | 0 => ⟨fun _ _ _ _ _ _ _ _ _ _ _ _ _ _ _ r h => by simp [laws_FnExactMirrorState.j0] at h, fun _ _ _ _ _ _ _ _ _ _ _ r h => by simp [laws_FnExactMirrorState.j1] at h, fun _ _ _ _ _ r h => by simp [laws_FnExactMirrorState.j2] at h⟩
  | k + 1 => by
    obtain ⟨ih0, ih1, ih2⟩ := laws_FnExactMirrorState.mono_l k
    refine ⟨?_, ?_, ?_⟩
    · intro y0 y1 y2 y3 y4 y5 y6 y7 y8 y9 y10 y11 y12 y13 y14
      unfold laws_FnExactMirrorState.j0
      repeat' first
      | (with_reducible exact ih0 _ _ _ _ _ _ _ _ _ _ _ _ _ _ _)
      | (with_reducible exact ih1 _ _ _ _ _ _ _ _ _ _ _)
      | (with_reducible exact ih2 _ _ _ _ _)
      | (with_reducible exact impl_MirrorState.mono _ _ _ _)
      | (with_reducible exact laws_eqState.mono _ _ _ _ _ _ _)
      | (with_reducible exact laws_heldState.mono _ _ _ _ _)
      | (with_reducible exact laws_markState.mono _ _ _ _ _)
      | (with_reducible exact laws_toState.mono _ _ _ _)
      | (with_reducible exact spec_MirrorState.mono _ _ _ _)
      | (with_reducible exact LeO.refl _)
      | (with_reducible exact LeO.none _)
      | (with_reducible refine LeO.ite ?_ ?_)
      | (with_reducible refine LeO.bind ?_ (fun _ => ?_))
      | exact ih0 _ _ _ _ _ _ _ _ _ _ _ _ _ _ _
      | exact ih1 _ _ _ _ _ _ _ _ _ _ _
      | exact ih2 _ _ _ _ _
      | exact impl_MirrorState.mono _ _ _ _
      | exact laws_eqState.mono _ _ _ _ _ _ _
      | exact laws_heldState.mono _ _ _ _ _
      | exact laws_markState.mono _ _ _ _ _
      | exact laws_toState.mono _ _ _ _
      | exact spec_MirrorState.mono _ _ _ _
      | exact LeO.none _
      | refine LeO.ite ?_ ?_
      | refine LeO.bind ?_ (fun _ => ?_)
    · intro y0 y1 y2 y3 y4 y5 y6 y7 y8 y9 y10
      unfold laws_FnExactMirrorState.j1
      repeat' first
      | (with_reducible exact ih0 _ _ _ _ _ _ _ _ _ _ _ _ _ _ _)
      | (with_reducible exact ih1 _ _ _ _ _ _ _ _ _ _ _)
      | (with_reducible exact ih2 _ _ _ _ _)
      | (with_reducible exact impl_MirrorState.mono _ _ _ _)
      | (with_reducible exact laws_eqState.mono _ _ _ _ _ _ _)
      | (with_reducible exact laws_heldState.mono _ _ _ _ _)
      | (with_reducible exact laws_markState.mono _ _ _ _ _)
      | (with_reducible exact laws_toState.mono _ _ _ _)
      | (with_reducible exact spec_MirrorState.mono _ _ _ _)
      | (with_reducible exact LeO.refl _)
      | (with_reducible exact LeO.none _)
      | (with_reducible refine LeO.ite ?_ ?_)
      | (with_reducible refine LeO.bind ?_ (fun _ => ?_))
      | exact ih0 _ _ _ _ _ _ _ _ _ _ _ _ _ _ _
      | exact ih1 _ _ _ _ _ _ _ _ _ _ _
      | exact ih2 _ _ _ _ _
      | exact impl_MirrorState.mono _ _ _ _
      | exact laws_eqState.mono _ _ _ _ _ _ _
      | exact laws_heldState.mono _ _ _ _ _
      | exact laws_markState.mono _ _ _ _ _
      | exact laws_toState.mono _ _ _ _
      | exact spec_MirrorState.mono _ _ _ _
      | exact LeO.none _
      | refine LeO.ite ?_ ?_
      | refine LeO.bind ?_ (fun _ => ?_)
    · intro y0 y1 y2 y3 y4
      unfold laws_FnExactMirrorState.j2
      repeat' first
      | (with_reducible exact ih0 _ _ _ _ _ _ _ _ _ _ _ _ _ _ _)
      | (with_reducible exact ih1 _ _ _ _ _ _ _ _ _ _ _)
      | (with_reducible exact ih2 _ _ _ _ _)
      | (with_reducible exact impl_MirrorState.mono _ _ _ _)
      | (with_reducible exact laws_eqState.mono _ _ _ _ _ _ _)
      | (with_reducible exact laws_heldState.mono _ _ _ _ _)
      | (with_reducible exact laws_markState.mono _ _ _ _ _)
      | (with_reducible exact laws_toState.mono _ _ _ _)
      | (with_reducible exact spec_MirrorState.mono _ _ _ _)
      | (with_reducible exact LeO.refl _)
      | (with_reducible exact LeO.none _)
      | (with_reducible refine LeO.ite ?_ ?_)
      | (with_reducible refine LeO.bind ?_ (fun _ => ?_))
      | exact ih0 _ _ _ _ _ _ _ _ _ _ _ _ _ _ _
      | exact ih1 _ _ _ _ _ _ _ _ _ _ _
      | exact ih2 _ _ _ _ _
      | exact impl_MirrorState.mono _ _ _ _
      | exact laws_eqState.mono _ _ _ _ _ _ _
      | exact laws_heldState.mono _ _ _ _ _
      | exact laws_markState.mono _ _ _ _ _
      | exact laws_toState.mono _ _ _ _
      | exact spec_MirrorState.mono _ _ _ _
      | exact LeO.none _
      | refine LeO.ite ?_ ?_
      | refine LeO.bind ?_ (fun _ => ?_)
theorem laws_FnExactMirrorState.mono : ∀ a0 a1 a2 k, LeO (laws_FnExactMirrorState.f k a0 a1 a2) (laws_FnExactMirrorState.f (k + 1) a0 a1 a2) := by
  intro a0 a1 a2 k
  obtain ⟨ih0, ih1, ih2⟩ := laws_FnExactMirrorState.mono_l k
  unfold laws_FnExactMirrorState.f
  repeat' first
      | (with_reducible exact ih0 _ _ _ _ _ _ _ _ _ _ _ _ _ _ _)
      | (with_reducible exact ih1 _ _ _ _ _ _ _ _ _ _ _)
      | (with_reducible exact ih2 _ _ _ _ _)
      | (with_reducible exact impl_MirrorState.mono _ _ _ _)
      | (with_reducible exact laws_eqState.mono _ _ _ _ _ _ _)
      | (with_reducible exact laws_heldState.mono _ _ _ _ _)
      | (with_reducible exact laws_markState.mono _ _ _ _ _)
      | (with_reducible exact laws_toState.mono _ _ _ _)
      | (with_reducible exact spec_MirrorState.mono _ _ _ _)
      | (with_reducible exact LeO.refl _)
      | (with_reducible exact LeO.none _)
      | (with_reducible refine LeO.ite ?_ ?_)
      | (with_reducible refine LeO.bind ?_ (fun _ => ?_))
      | exact ih0 _ _ _ _ _ _ _ _ _ _ _ _ _ _ _
      | exact ih1 _ _ _ _ _ _ _ _ _ _ _
      | exact ih2 _ _ _ _ _
      | exact impl_MirrorState.mono _ _ _ _
      | exact laws_eqState.mono _ _ _ _ _ _ _
      | exact laws_heldState.mono _ _ _ _ _
      | exact laws_markState.mono _ _ _ _ _
      | exact laws_toState.mono _ _ _ _
      | exact spec_MirrorState.mono _ _ _ _
      | exact LeO.none _
      | refine LeO.ite ?_ ?_
      | refine LeO.bind ?_ (fun _ => ?_)
theorem laws_FnExactMirrorState.j0_no : ∀ k y0 y1 y2 y3 y4 y5 y6 y7 y8 y9 y10 y11 y12 y13, ¬ laws_FnExactMirrorState.j0 k y0 y1 true y2 y3 y4 y5 y6 y7 y8 y9 y10 y11 y12 y13 = some true
  | 0, _, _, _, _, _, _, _, _, _, _, _, _, _, _ => by simp [laws_FnExactMirrorState.j0]
  | k + 1, _, _, _, _, _, _, _, _, _, _, _, _, _, _ => by simp [laws_FnExactMirrorState.j0]
theorem laws_FnExactMirrorState.j1_no : ∀ k y0 y1 y2 y3 y4 y5 y6 y7 y8 y9, ¬ laws_FnExactMirrorState.j1 k y0 true y1 y2 y3 y4 y5 y6 y7 y8 y9 = some true
  | 0, _, _, _, _, _, _, _, _, _, _ => by simp [laws_FnExactMirrorState.j1]
  | k + 1, _, _, _, _, _, _, _, _, _, _ => by simp [laws_FnExactMirrorState.j1]
theorem laws_FnExactMirrorState.j2_no : ∀ k y0 y1 y2 y3, ¬ laws_FnExactMirrorState.j2 k y0 true y1 y2 y3 = some true
  | 0, _, _, _, _ => by simp [laws_FnExactMirrorState.j2]
  | k + 1, _, _, _, _ => by simp [laws_FnExactMirrorState.j2]
set_option maxHeartbeats 8000000 in
set_option maxRecDepth 100000 in
theorem laws_FnExactMirrorState.calls (k : Nat) (A0_0 : Option Addr) (c0_0 : Nat) (l0_0 : List Int) (A0_1 : Option Addr) (c0_1 : Nat) (l0_1 : List Int) (a0_2 : Int) (r : Bool) (w : World) (hr0_0 : Kd.C (Kd.int .i64) w A0_0 l0_0.length l0_0) (hc0_0 : l0_0.length ≤ c0_0) (hr0_1 : Kd.C (Kd.int .i64) w A0_1 l0_1.length l0_1) (hc0_1 : l0_1.length ≤ c0_1) (hr_ : r = true) (h : laws_FnExactMirrorState.f k l0_0 l0_1 a0_2 = some r) :
    Calls Try.prog 5 #[.agg #[.slice A0_0 l0_0.length c0_0, .slice A0_1 l0_1.length c0_1, .int .i64 a0_2]] w fun e w' => e = .returned (.bool r) ∧ Below w.heap.size w w' := by
  have hu24 := Try.underlying24
  have hu27 := Try.underlying27
  have HR0_0 := Aside0.mk hr0_0
  have HC0_0 := Aside0.mk hc0_0
  clear hr0_0 hc0_0
  have HR0_1 := Aside0.mk hr0_1
  have HC0_1 := Aside0.mk hc0_1
  clear hr0_1 hc0_1
  have HB := Aside0.mk (Below.refl w.heap.size w)
  have H : ((laws_szState.f l0_0 l0_1 a0_2 1048576).bind fun t251 => (if t251 < 0 then (some true) else ((laws_toState.f k l0_0 l0_1 a0_2).bind fun bt252 => ((spec_MirrorState.f k bt252.1 bt252.2.1 bt252.2.2).bind fun bt259 => ((laws_toState.f k l0_0 l0_1 a0_2).bind fun bt268 => ((impl_MirrorState.f k bt268.1 bt268.2.1 bt268.2.2).bind fun bt276 => ((laws_eqState.f k bt276.1 bt276.2.1 bt276.2.2.1 bt259.1 bt259.2.1 bt259.2.2.1).bind fun t285 => (if t285 = true then (laws_FnExactMirrorState.j0 k bt259.2.2.2 bt276.2.2.2 (bt276.2.2.2 != bt259.2.2.2) l0_0 l0_1 a0_2 bt259.1 bt259.2.1 bt259.2.2.1 bt268.1 bt268.2.1 bt268.2.2 bt276.1 bt276.2.1 bt276.2.2.1) else (laws_FnExactMirrorState.j0 k bt259.2.2.2 bt276.2.2.2 true l0_0 l0_1 a0_2 bt259.1 bt259.2.1 bt259.2.2.1 bt268.1 bt268.2.1 bt268.2.2 bt276.1 bt276.2.1 bt276.2.2.1))))))))) = some r := h
  clear h
  replace H := Option.bind_eq_some_iff.mp H
  obtain ⟨t251, A20, H⟩ := H
  replace H : (if t251 < 0 then (some true) else ((laws_toState.f k l0_0 l0_1 a0_2).bind fun bt252 => ((spec_MirrorState.f k bt252.1 bt252.2.1 bt252.2.2).bind fun bt259 => ((laws_toState.f k l0_0 l0_1 a0_2).bind fun bt268 => ((impl_MirrorState.f k bt268.1 bt268.2.1 bt268.2.2).bind fun bt276 => ((laws_eqState.f k bt276.1 bt276.2.1 bt276.2.2.1 bt259.1 bt259.2.1 bt259.2.2.1).bind fun t285 => (if t285 = true then (laws_FnExactMirrorState.j0 k bt259.2.2.2 bt276.2.2.2 (bt276.2.2.2 != bt259.2.2.2) l0_0 l0_1 a0_2 bt259.1 bt259.2.1 bt259.2.2.1 bt268.1 bt268.2.1 bt268.2.2 bt276.1 bt276.2.1 bt276.2.2.1) else (laws_FnExactMirrorState.j0 k bt259.2.2.2 bt276.2.2.2 true l0_0 l0_1 a0_2 bt259.1 bt259.2.1 bt259.2.2.1 bt268.1 bt268.2.1 bt268.2.2 bt276.1 bt276.2.1 bt276.2.2.1)))))))) = some r := H
  have A2 := Aside0.mk A20
  clear A20
  by_cases c3 : t251 < 0
  · rw [if_pos c3] at H
    have c3b0 : decide (t251 < 0) = true := decide_eq_true c3
    clear c3
    obtain rfl := Option.some.inj H
    go_enter Try.func5, Try.ntmps5
    go_wp2_with (first | ((with_reducible refine gate_dst (N := 1) rfl ?_); refine box_event ?hg (N := 1) ?hd (cs := #[.slice A0_0 l0_0.length c0_0, .slice A0_1 l0_1.length c0_1, .int .i64 a0_2]) (t := 24) ?hr ?_; (case hd => rfl); (case hg => rfl); (case hr => first | (go_simp; done) | (go_simp; rfl)); intro gb250 hg w4 hbox hb; have n0_ := Aside0.mk (below_step (by repeat (first | exact HB.out | apply below_alloc | apply pw_below_drewN | apply below_drew1)) hb); have n1_ := Aside0.mk (hbox); have n2_ := Aside0.mk ((by rw [hg]; exact (below_size (by repeat (first | exact HB.out | apply below_alloc | apply pw_below_drewN | apply below_drew1))) : w.heap.size ≤ gb250)); have n3_ := Aside0.mk ((by rw [hg]; exact (below_size (by repeat (first | exact HB.out | apply below_alloc | apply pw_below_drewN | apply below_drew1))) : w.heap.size ≤ gb250)); clear HB; have HB := n0_; have BK250 := n1_; have GW250 := n2_; have GE250 := n3_; clear n0_ n1_ n2_ n3_; clear hb hbox hg; have hcz5_0 : w4.cell? ⟨gb250, 0, none⟩ = some (.slice A0_0 l0_0.length c0_0) := (blk_cell BK250.out 0).trans rfl; have hcz5_1 : w4.cell? ⟨gb250, 1, none⟩ = some (.slice A0_1 l0_1.length c0_1) := (blk_cell BK250.out 1).trans rfl; have hcz5_2 : w4.cell? ⟨gb250, 2, none⟩ = some (.int .i64 a0_2) := (blk_cell BK250.out 2).trans rfl; have hfz5_0 := blk_frozen BK250.out 0; have hfz5_1 := blk_frozen BK250.out 1; have hfz5_2 := blk_frozen BK250.out 2) | ((with_reducible refine gate_callee (f := 10) rfl ?_); refine goesL_ (some 16) rfl rfl Try.func10 (by kernel_rfl) rfl #[.agg #[.slice A0_0 l0_0.length c0_0, .slice A0_1 l0_1.length c0_1, .int .i64 a0_2], .int .i64 1048576] rfl (by (try simp only [List.map_toArray, List.map_cons, List.map_nil]); first | done | rfl | (simp only [List.length_drop, List.length_take]; rfl)) ?_; (with_reducible refine (laws_szState.calls _ _ l0_0 _ _ l0_1 a0_2 1048576 t251 _ ?side1 ?side2 ?side3 ?side4 A2.out).mono ?_); (case side1 => repeat (first | exact (Kd.C_below HR0_0.out HB.out) | (with_reducible refine Kd.C_alloc ?_ _) | (with_reducible refine Kd.C_drewN ?_ _) | (with_reducible refine Kd.C_drew ?_))); (case side2 => exact HC0_0.out); (case side3 => repeat (first | exact (Kd.C_below HR0_1.out HB.out) | (with_reducible refine Kd.C_alloc ?_ _) | (with_reducible refine Kd.C_drewN ?_ _) | (with_reducible refine Kd.C_drew ?_))); (case side4 => exact HC0_1.out); rintro e w6 ⟨rfl, hb⟩; refine ⟨_, rfl, ?_⟩; have n0_ := Aside0.mk (blk_below (g := gb250) (o := .cells #[.slice A0_0 l0_0.length c0_0, .slice A0_1 l0_1.length c0_1, .int .i64 a0_2] 24 (0, 0)) (by (with_reducible repeat (first | refine blk_drewN ?_ _ | refine blk_drew ?_ | refine blk_alloc ?_ _)); exact BK250.out) hb); have n1_ := Aside0.mk (below_step (by repeat (first | (with_reducible first | exact HB.out | apply below_alloc | apply pw_below_drewN | apply below_drew1 | refine below_set ?_ GE250.out) | exact HB.out)) hb); clear BK250; clear HB; have BK250 := n0_; have HB := n1_; clear n0_ n1_; (try clear hb); (try clear hb2); (try clear hk); (try clear hi)))
    go_ret
    exact ⟨by first | rfl | (simp [errW_none, errW_some] <;> rfl) | (simp [*, errW_none, errW_some] <;> rfl), by repeat (first | (with_reducible first | exact HB.out | apply below_alloc | apply pw_below_drewN | apply below_drew1 | refine below_set ?_ GE250.out) | exact HB.out)⟩
  · rw [if_neg c3] at H
    have c3b0 : decide (t251 < 0) = false := decide_eq_false c3
    clear c3
    replace H := Option.bind_eq_some_iff.mp H
    obtain ⟨⟨t252, t255, t258⟩, A70, H⟩ := H
    replace H : ((spec_MirrorState.f k t252 t255 t258).bind fun bt259 => ((laws_toState.f k l0_0 l0_1 a0_2).bind fun bt268 => ((impl_MirrorState.f k bt268.1 bt268.2.1 bt268.2.2).bind fun bt276 => ((laws_eqState.f k bt276.1 bt276.2.1 bt276.2.2.1 bt259.1 bt259.2.1 bt259.2.2.1).bind fun t285 => (if t285 = true then (laws_FnExactMirrorState.j0 k bt259.2.2.2 bt276.2.2.2 (bt276.2.2.2 != bt259.2.2.2) l0_0 l0_1 a0_2 bt259.1 bt259.2.1 bt259.2.2.1 bt268.1 bt268.2.1 bt268.2.2 bt276.1 bt276.2.1 bt276.2.2.1) else (laws_FnExactMirrorState.j0 k bt259.2.2.2 bt276.2.2.2 true l0_0 l0_1 a0_2 bt259.1 bt259.2.1 bt259.2.2.1 bt268.1 bt268.2.1 bt268.2.2 bt276.1 bt276.2.1 bt276.2.2.1)))))) = some r := H
    have A7 := Aside0.mk A70
    clear A70
    replace H := Option.bind_eq_some_iff.mp H
    obtain ⟨⟨t259, t262, t265, t266⟩, A80, H⟩ := H
    replace H : ((laws_toState.f k l0_0 l0_1 a0_2).bind fun bt268 => ((impl_MirrorState.f k bt268.1 bt268.2.1 bt268.2.2).bind fun bt276 => ((laws_eqState.f k bt276.1 bt276.2.1 bt276.2.2.1 t259 t262 t265).bind fun t285 => (if t285 = true then (laws_FnExactMirrorState.j0 k t266 bt276.2.2.2 (bt276.2.2.2 != t266) l0_0 l0_1 a0_2 t259 t262 t265 bt268.1 bt268.2.1 bt268.2.2 bt276.1 bt276.2.1 bt276.2.2.1) else (laws_FnExactMirrorState.j0 k t266 bt276.2.2.2 true l0_0 l0_1 a0_2 t259 t262 t265 bt268.1 bt268.2.1 bt268.2.2 bt276.1 bt276.2.1 bt276.2.2.1))))) = some r := H
    have A8 := Aside0.mk A80
    clear A80
    replace H := Option.bind_eq_some_iff.mp H
    obtain ⟨⟨t268, t271, t274⟩, A90, H⟩ := H
    replace H : ((impl_MirrorState.f k t268 t271 t274).bind fun bt276 => ((laws_eqState.f k bt276.1 bt276.2.1 bt276.2.2.1 t259 t262 t265).bind fun t285 => (if t285 = true then (laws_FnExactMirrorState.j0 k t266 bt276.2.2.2 (bt276.2.2.2 != t266) l0_0 l0_1 a0_2 t259 t262 t265 t268 t271 t274 bt276.1 bt276.2.1 bt276.2.2.1) else (laws_FnExactMirrorState.j0 k t266 bt276.2.2.2 true l0_0 l0_1 a0_2 t259 t262 t265 t268 t271 t274 bt276.1 bt276.2.1 bt276.2.2.1)))) = some r := H
    have A9 := Aside0.mk A90
    clear A90
    replace H := Option.bind_eq_some_iff.mp H
    obtain ⟨⟨t276, t279, t282, t283⟩, A100, H⟩ := H
    replace H : ((laws_eqState.f k t276 t279 t282 t259 t262 t265).bind fun t285 => (if t285 = true then (laws_FnExactMirrorState.j0 k t266 t283 (t283 != t266) l0_0 l0_1 a0_2 t259 t262 t265 t268 t271 t274 t276 t279 t282) else (laws_FnExactMirrorState.j0 k t266 t283 true l0_0 l0_1 a0_2 t259 t262 t265 t268 t271 t274 t276 t279 t282))) = some r := H
    have A10 := Aside0.mk A100
    clear A100
    have HC11 := Aside0.mk H
    clear H
    go_enter Try.func5, Try.ntmps5
    go_upto_region 8 with (first | ((with_reducible refine gate_dst (N := 1) rfl ?_); refine box_event ?hg (N := 1) ?hd (cs := #[.slice A0_0 l0_0.length c0_0, .slice A0_1 l0_1.length c0_1, .int .i64 a0_2]) (t := 24) ?hr ?_; (case hd => rfl); (case hg => rfl); (case hr => first | (go_simp; done) | (go_simp; rfl)); intro gb250 hg w12 hbox hb; have n0_ := Aside0.mk (below_step (by repeat (first | exact HB.out | apply below_alloc | apply pw_below_drewN | apply below_drew1)) hb); have n1_ := Aside0.mk (hbox); have n2_ := Aside0.mk ((by rw [hg]; exact (below_size (by repeat (first | exact HB.out | apply below_alloc | apply pw_below_drewN | apply below_drew1))) : w.heap.size ≤ gb250)); have n3_ := Aside0.mk ((by rw [hg]; exact (below_size (by repeat (first | exact HB.out | apply below_alloc | apply pw_below_drewN | apply below_drew1))) : w.heap.size ≤ gb250)); clear HB; have HB := n0_; have BK250 := n1_; have GW250 := n2_; have GE250 := n3_; clear n0_ n1_ n2_ n3_; clear hb hbox hg; have hcz13_0 : w12.cell? ⟨gb250, 0, none⟩ = some (.slice A0_0 l0_0.length c0_0) := (blk_cell BK250.out 0).trans rfl; have hcz13_1 : w12.cell? ⟨gb250, 1, none⟩ = some (.slice A0_1 l0_1.length c0_1) := (blk_cell BK250.out 1).trans rfl; have hcz13_2 : w12.cell? ⟨gb250, 2, none⟩ = some (.int .i64 a0_2) := (blk_cell BK250.out 2).trans rfl; have hfz13_0 := blk_frozen BK250.out 0; have hfz13_1 := blk_frozen BK250.out 1; have hfz13_2 := blk_frozen BK250.out 2) | ((with_reducible refine gate_callee (f := 10) rfl ?_); refine goesL_ (some 16) rfl rfl Try.func10 (by kernel_rfl) rfl #[.agg #[.slice A0_0 l0_0.length c0_0, .slice A0_1 l0_1.length c0_1, .int .i64 a0_2], .int .i64 1048576] rfl (by (try simp only [List.map_toArray, List.map_cons, List.map_nil]); first | done | rfl | (simp only [List.length_drop, List.length_take]; rfl)) ?_; (with_reducible refine (laws_szState.calls _ _ l0_0 _ _ l0_1 a0_2 1048576 t251 _ ?side1 ?side2 ?side3 ?side4 A2.out).mono ?_); (case side1 => repeat (first | exact (Kd.C_below HR0_0.out HB.out) | (with_reducible refine Kd.C_alloc ?_ _) | (with_reducible refine Kd.C_drewN ?_ _) | (with_reducible refine Kd.C_drew ?_))); (case side2 => exact HC0_0.out); (case side3 => repeat (first | exact (Kd.C_below HR0_1.out HB.out) | (with_reducible refine Kd.C_alloc ?_ _) | (with_reducible refine Kd.C_drewN ?_ _) | (with_reducible refine Kd.C_drew ?_))); (case side4 => exact HC0_1.out); rintro e w14 ⟨rfl, hb⟩; refine ⟨_, rfl, ?_⟩; have n0_ := Aside0.mk (blk_below (g := gb250) (o := .cells #[.slice A0_0 l0_0.length c0_0, .slice A0_1 l0_1.length c0_1, .int .i64 a0_2] 24 (0, 0)) (by (with_reducible repeat (first | refine blk_drewN ?_ _ | refine blk_drew ?_ | refine blk_alloc ?_ _)); exact BK250.out) hb); have n1_ := Aside0.mk (below_step (by repeat (first | (with_reducible first | exact HB.out | apply below_alloc | apply pw_below_drewN | apply below_drew1 | refine below_set ?_ GE250.out) | exact HB.out)) hb); clear BK250; clear HB; have BK250 := n0_; have HB := n1_; clear n0_ n1_; (try clear hb); (try clear hb2); (try clear hk); (try clear hi); have hcz15_0 : w14.cell? ⟨gb250, 0, none⟩ = some (.slice A0_0 l0_0.length c0_0) := (blk_cell BK250.out 0).trans rfl; have hcz15_1 : w14.cell? ⟨gb250, 1, none⟩ = some (.slice A0_1 l0_1.length c0_1) := (blk_cell BK250.out 1).trans rfl; have hcz15_2 : w14.cell? ⟨gb250, 2, none⟩ = some (.int .i64 a0_2) := (blk_cell BK250.out 2).trans rfl; have hfz15_0 := blk_frozen BK250.out 0; have hfz15_1 := blk_frozen BK250.out 1; have hfz15_2 := blk_frozen BK250.out 2) | ((with_reducible refine gate_callee (f := 12) rfl ?_); refine goesL_ (some 21) rfl rfl Try.func12 (by kernel_rfl) rfl #[.agg #[.slice A0_0 l0_0.length c0_0, .slice A0_1 l0_1.length c0_1, .int .i64 a0_2]] rfl (by (try simp only [List.map_toArray, List.map_cons, List.map_nil]); first | done | rfl | (simp only [List.length_drop, List.length_take]; rfl)) ?_; (with_reducible refine (laws_toState.calls k _ _ l0_0 _ _ l0_1 a0_2 t252 t255 t258 _ ?side1 ?side2 ?side3 ?side4 A7.out).mono ?_); (case side1 => repeat (first | exact (Kd.C_below HR0_0.out HB.out) | (with_reducible refine Kd.C_alloc ?_ _) | (with_reducible refine Kd.C_drewN ?_ _) | (with_reducible refine Kd.C_drew ?_))); (case side2 => exact HC0_0.out); (case side3 => repeat (first | exact (Kd.C_below HR0_1.out HB.out) | (with_reducible refine Kd.C_alloc ?_ _) | (with_reducible refine Kd.C_drewN ?_ _) | (with_reducible refine Kd.C_drew ?_))); (case side4 => exact HC0_1.out); rintro e w16 ⟨v253, v256, rfl, ho0, ho1, hb⟩; refine ⟨_, rfl, ?_⟩; have n0_ := Aside0.mk (Kd.R_lower ho0 (below_size (by repeat (first | (with_reducible first | exact HB.out | apply below_alloc | apply pw_below_drewN | apply below_drew1 | refine below_set ?_ GE250.out) | exact HB.out)))); have n1_ := Aside0.mk (Kd.R_lower ho1 (below_size (by repeat (first | (with_reducible first | exact HB.out | apply below_alloc | apply pw_below_drewN | apply below_drew1 | refine below_set ?_ GE250.out) | exact HB.out)))); have n2_ := Aside0.mk (blk_below (g := gb250) (o := .cells #[.slice A0_0 l0_0.length c0_0, .slice A0_1 l0_1.length c0_1, .int .i64 a0_2] 24 (0, 0)) (by (with_reducible repeat (first | refine blk_drewN ?_ _ | refine blk_drew ?_ | refine blk_alloc ?_ _)); exact BK250.out) hb); have n3_ := Aside0.mk (below_step (by repeat (first | (with_reducible first | exact HB.out | apply below_alloc | apply pw_below_drewN | apply below_drew1 | refine below_set ?_ GE250.out) | exact HB.out)) hb); clear BK250; clear HB; have HO254 := n0_; have HO257 := n1_; have BK250 := n2_; have HB := n3_; clear n0_ n1_ n2_ n3_; (try clear hb); (try clear hb2); (try clear hk); (try clear hi); (try clear ho0); (try clear ho1); obtain ⟨Ao17, co17, eo17⟩ := Kd.R_slice HO254.out; subst eo17; obtain ⟨Ao18, co18, eo18⟩ := Kd.R_slice HO257.out; subst eo18) | ((with_reducible refine gate_callee (f := 17) rfl ?_); refine goesL_ (some 22) rfl rfl Try.func17 (by kernel_rfl) rfl #[.agg #[.slice Ao17 t252.length co17, .slice Ao18 t255.length co18, .int .i64 t258]] rfl (by (try simp only [List.map_toArray, List.map_cons, List.map_nil]); first | done | rfl | (simp only [List.length_drop, List.length_take]; rfl)) ?_; (with_reducible refine (spec_MirrorState.calls k _ _ t252 _ _ t255 t258 t259 t262 t265 t266 _ ?side1 ?side2 ?side3 ?side4 A8.out).mono ?_); (case side1 => repeat (first | exact (Kd.R_reads' HO254.out).2.2 | (with_reducible refine Kd.C_alloc ?_ _) | (with_reducible refine Kd.C_drewN ?_ _) | (with_reducible refine Kd.C_drew ?_))); (case side2 => exact (Kd.R_reads' HO254.out).2.1); (case side3 => repeat (first | exact (Kd.R_reads' HO257.out).2.2 | (with_reducible refine Kd.C_alloc ?_ _) | (with_reducible refine Kd.C_drewN ?_ _) | (with_reducible refine Kd.C_drew ?_))); (case side4 => exact (Kd.R_reads' HO257.out).2.1); rintro e w19 ⟨v260, v263, rfl, ho0, ho1, hb⟩; refine ⟨_, rfl, ?_⟩; have n0_ := Aside0.mk (Kd.R_mono (Kd.R_told (Kd.R_told (Kd.R_old (by (with_reducible repeat (first | apply Kd.R_alloc | apply Kd.R_drewN | apply Kd.R_drew)); exact HO254.out) hb) (Kd.R_base ho0)) (Kd.R_base ho1)) (fun _ h_ => h_.1)); have n1_ := Aside0.mk (Kd.R_mono (Kd.R_told (Kd.R_told (Kd.R_old (by (with_reducible repeat (first | apply Kd.R_alloc | apply Kd.R_drewN | apply Kd.R_drew)); exact HO257.out) hb) (Kd.R_base ho0)) (Kd.R_base ho1)) (fun _ h_ => h_.1)); have n2_ := Aside0.mk (Kd.R_lower (Kd.R_new' (Kd.R_new' ho0 (Kd.R_lt (by (with_reducible repeat (first | apply Kd.R_alloc | apply Kd.R_drewN | apply Kd.R_drew)); exact HO254.out))) (Kd.R_lt (by (with_reducible repeat (first | apply Kd.R_alloc | apply Kd.R_drewN | apply Kd.R_drew)); exact HO257.out))) (below_size (by repeat (first | (with_reducible first | exact HB.out | apply below_alloc | apply pw_below_drewN | apply below_drew1 | refine below_set ?_ GE250.out) | exact HB.out)))); have n3_ := Aside0.mk (Kd.R_lower (Kd.R_new' (Kd.R_new' ho1 (Kd.R_lt (by (with_reducible repeat (first | apply Kd.R_alloc | apply Kd.R_drewN | apply Kd.R_drew)); exact HO254.out))) (Kd.R_lt (by (with_reducible repeat (first | apply Kd.R_alloc | apply Kd.R_drewN | apply Kd.R_drew)); exact HO257.out))) (below_size (by repeat (first | (with_reducible first | exact HB.out | apply below_alloc | apply pw_below_drewN | apply below_drew1 | refine below_set ?_ GE250.out) | exact HB.out)))); have n4_ := Aside0.mk (blk_below (g := gb250) (o := .cells #[.slice A0_0 l0_0.length c0_0, .slice A0_1 l0_1.length c0_1, .int .i64 a0_2] 24 (0, 0)) (by (with_reducible repeat (first | refine blk_drewN ?_ _ | refine blk_drew ?_ | refine blk_alloc ?_ _)); exact BK250.out) hb); have n5_ := Aside0.mk (below_step (by repeat (first | (with_reducible first | exact HB.out | apply below_alloc | apply pw_below_drewN | apply below_drew1 | refine below_set ?_ GE250.out) | exact HB.out)) hb); clear HO254; clear HO257; clear BK250; clear HB; have HO254 := n0_; have HO257 := n1_; have HO261 := n2_; have HO264 := n3_; have BK250 := n4_; have HB := n5_; clear n0_ n1_ n2_ n3_ n4_ n5_; (try clear hb); (try clear hb2); (try clear hk); (try clear hi); (try clear ho0); (try clear ho1)) | ((with_reducible refine gate_dst (N := 4) rfl ?_); refine box_event ?hg (N := 4) ?hd (cs := #[.slice none 0 0, .slice none 0 0, .int .i64 0]) (t := 27) ?hr ?_; (case hd => rfl); (case hg => rfl); (case hr => first | (go_simp; done) | (go_simp; rfl)); intro gb267 hg w20 hbox hb; have n0_ := Aside0.mk (Kd.R_below (by (with_reducible repeat (first | apply Kd.R_alloc | apply Kd.R_drewN | apply Kd.R_drew)); exact HO254.out) hb); have n1_ := Aside0.mk (Kd.R_below (by (with_reducible repeat (first | apply Kd.R_alloc | apply Kd.R_drewN | apply Kd.R_drew)); exact HO257.out) hb); have n2_ := Aside0.mk (Kd.R_below (by (with_reducible repeat (first | apply Kd.R_alloc | apply Kd.R_drewN | apply Kd.R_drew)); exact HO261.out) hb); have n3_ := Aside0.mk (Kd.R_below (by (with_reducible repeat (first | apply Kd.R_alloc | apply Kd.R_drewN | apply Kd.R_drew)); exact HO264.out) hb); have n4_ := Aside0.mk (blk_below (g := gb250) (o := .cells #[.slice A0_0 l0_0.length c0_0, .slice A0_1 l0_1.length c0_1, .int .i64 a0_2] 24 (0, 0)) (by (with_reducible repeat (first | refine blk_drewN ?_ _ | refine blk_drew ?_ | refine blk_alloc ?_ _)); exact BK250.out) hb); have n5_ := Aside0.mk (below_step (by repeat (first | (with_reducible first | exact HB.out | apply below_alloc | apply pw_below_drewN | apply below_drew1 | refine below_set ?_ GE250.out) | exact HB.out)) hb); have n6_ := Aside0.mk (hbox); have n7_ := Aside0.mk ((by rw [hg]; exact (below_size (by repeat (first | (with_reducible first | exact HB.out | apply below_alloc | apply pw_below_drewN | apply below_drew1 | refine below_set ?_ GE250.out) | exact HB.out))) : w.heap.size ≤ gb267)); have n8_ := Aside0.mk ((by rw [hg]; exact (below_size (by repeat (first | (with_reducible first | exact HB.out | apply below_alloc | apply pw_below_drewN | apply below_drew1 | refine below_set ?_ GE250.out) | exact HB.out))) : w.heap.size ≤ gb267)); have n9_ := Aside0.mk ((by rw [hg]; exact Nat.ne_of_lt (blk_lt (g := gb250) (o := .cells #[.slice A0_0 l0_0.length c0_0, .slice A0_1 l0_1.length c0_1, .int .i64 a0_2] 24 (0, 0)) (by (with_reducible repeat (first | refine blk_drewN ?_ _ | refine blk_drew ?_ | refine blk_alloc ?_ _)); exact BK250.out)) : gb250 ≠ gb267)); have n10_ := Aside0.mk ((by rw [hg]; exact Nat.ne_of_gt (blk_lt (g := gb250) (o := .cells #[.slice A0_0 l0_0.length c0_0, .slice A0_1 l0_1.length c0_1, .int .i64 a0_2] 24 (0, 0)) (by (with_reducible repeat (first | refine blk_drewN ?_ _ | refine blk_drew ?_ | refine blk_alloc ?_ _)); exact BK250.out)) : gb267 ≠ gb250)); clear HO254; clear HO257; clear HO261; clear HO264; clear BK250; clear HB; have HO254 := n0_; have HO257 := n1_; have HO261 := n2_; have HO264 := n3_; have BK250 := n4_; have HB := n5_; have BK267 := n6_; have GW267 := n7_; have GE267 := n8_; have NB250_267 := n9_; have NB267_250 := n10_; clear n0_ n1_ n2_ n3_ n4_ n5_ n6_ n7_ n8_ n9_ n10_; clear hb hbox hg; obtain ⟨Ao21, co21, eo21⟩ := Kd.R_slice HO261.out; subst eo21; have hnb22 := NB267_250.out; have hnc22 := NB250_267.out; have hcz23_0 : w20.cell? ⟨gb267, 0, none⟩ = some (.slice none 0 0) := (blk_cell BK267.out 0).trans rfl; have hcz23_1 : w20.cell? ⟨gb267, 1, none⟩ = some (.slice none 0 0) := (blk_cell BK267.out 1).trans rfl; have hcz23_2 : w20.cell? ⟨gb267, 2, none⟩ = some (.int .i64 0) := (blk_cell BK267.out 2).trans rfl; have hfz23_0 := blk_frozen BK267.out 0; have hfz23_1 := blk_frozen BK267.out 1; have hfz23_2 := blk_frozen BK267.out 2; obtain ⟨Ao24, co24, eo24⟩ := Kd.R_slice HO264.out; subst eo24; have hcz25_0 : w20.cell? ⟨gb250, 0, none⟩ = some (.slice A0_0 l0_0.length c0_0) := (blk_cell BK250.out 0).trans rfl; have hcz25_1 : w20.cell? ⟨gb250, 1, none⟩ = some (.slice A0_1 l0_1.length c0_1) := (blk_cell BK250.out 1).trans rfl; have hcz25_2 : w20.cell? ⟨gb250, 2, none⟩ = some (.int .i64 a0_2) := (blk_cell BK250.out 2).trans rfl; have hfz25_0 := blk_frozen BK250.out 0; have hfz25_1 := blk_frozen BK250.out 1; have hfz25_2 := blk_frozen BK250.out 2) | ((with_reducible refine gate_callee (f := 12) rfl ?_); refine goesL_ (some 26) rfl rfl Try.func12 (by kernel_rfl) rfl #[.agg #[.slice A0_0 l0_0.length c0_0, .slice A0_1 l0_1.length c0_1, .int .i64 a0_2]] rfl (by (try simp only [List.map_toArray, List.map_cons, List.map_nil]); first | done | rfl | (simp only [List.length_drop, List.length_take]; rfl)) ?_; (with_reducible refine (laws_toState.calls k _ _ l0_0 _ _ l0_1 a0_2 t268 t271 t274 _ ?side1 ?side2 ?side3 ?side4 A9.out).mono ?_); (case side1 => exact Kd.C_below HR0_0.out (by repeat (first | (with_reducible first | exact HB.out | apply below_alloc | apply pw_below_drewN | apply below_drew1 | refine below_set ?_ GE250.out | refine below_set ?_ GE267.out) | exact HB.out))); (case side2 => exact HC0_0.out); (case side3 => exact Kd.C_below HR0_1.out (by repeat (first | (with_reducible first | exact HB.out | apply below_alloc | apply pw_below_drewN | apply below_drew1 | refine below_set ?_ GE250.out | refine below_set ?_ GE267.out) | exact HB.out))); (case side4 => exact HC0_1.out); rintro e w26 ⟨v269, v272, rfl, ho0, ho1, hb⟩; refine ⟨_, rfl, ?_⟩; have n0_ := Aside0.mk (Kd.R_mono (Kd.R_told (Kd.R_told (Kd.R_old (by (with_reducible repeat (first | apply Kd.R_alloc | apply Kd.R_drewN | apply Kd.R_drew)); exact (Kd.R_mono (Kd.R_far (p := ⟨gb267, 2, none⟩) (Kd.R_far (p := ⟨gb267, 1, none⟩) (Kd.R_far (p := ⟨gb267, 0, none⟩) (Kd.R_types HO254.out BK267.out (by decide)) (fun _ hk => hk.2) (.slice Ao21 t259.length co21)) (fun _ hk => hk.2) (.slice Ao24 t262.length co24)) (fun _ hk => hk.2) (.int .i64 t265)) (fun _ h_ => h_.1))) hb) (Kd.R_base ho0)) (Kd.R_base ho1)) (fun _ h_ => h_.1)); have n1_ := Aside0.mk (Kd.R_mono (Kd.R_told (Kd.R_told (Kd.R_old (by (with_reducible repeat (first | apply Kd.R_alloc | apply Kd.R_drewN | apply Kd.R_drew)); exact (Kd.R_mono (Kd.R_far (p := ⟨gb267, 2, none⟩) (Kd.R_far (p := ⟨gb267, 1, none⟩) (Kd.R_far (p := ⟨gb267, 0, none⟩) (Kd.R_types HO257.out BK267.out (by decide)) (fun _ hk => hk.2) (.slice Ao21 t259.length co21)) (fun _ hk => hk.2) (.slice Ao24 t262.length co24)) (fun _ hk => hk.2) (.int .i64 t265)) (fun _ h_ => h_.1))) hb) (Kd.R_base ho0)) (Kd.R_base ho1)) (fun _ h_ => h_.1)); have n2_ := Aside0.mk (Kd.R_mono (Kd.R_told (Kd.R_told (Kd.R_old (by (with_reducible repeat (first | apply Kd.R_alloc | apply Kd.R_drewN | apply Kd.R_drew)); exact (Kd.R_mono (Kd.R_far (p := ⟨gb267, 2, none⟩) (Kd.R_far (p := ⟨gb267, 1, none⟩) (Kd.R_far (p := ⟨gb267, 0, none⟩) (Kd.R_types HO261.out BK267.out (by decide)) (fun _ hk => hk.2) (.slice Ao21 t259.length co21)) (fun _ hk => hk.2) (.slice Ao24 t262.length co24)) (fun _ hk => hk.2) (.int .i64 t265)) (fun _ h_ => h_.1))) hb) (Kd.R_base ho0)) (Kd.R_base ho1)) (fun _ h_ => h_.1)); have n3_ := Aside0.mk (Kd.R_mono (Kd.R_told (Kd.R_told (Kd.R_old (by (with_reducible repeat (first | apply Kd.R_alloc | apply Kd.R_drewN | apply Kd.R_drew)); exact (Kd.R_mono (Kd.R_far (p := ⟨gb267, 2, none⟩) (Kd.R_far (p := ⟨gb267, 1, none⟩) (Kd.R_far (p := ⟨gb267, 0, none⟩) (Kd.R_types HO264.out BK267.out (by decide)) (fun _ hk => hk.2) (.slice Ao21 t259.length co21)) (fun _ hk => hk.2) (.slice Ao24 t262.length co24)) (fun _ hk => hk.2) (.int .i64 t265)) (fun _ h_ => h_.1))) hb) (Kd.R_base ho0)) (Kd.R_base ho1)) (fun _ h_ => h_.1)); have n4_ := Aside0.mk (Kd.R_lower (Kd.R_new' (Kd.R_new' (Kd.R_new' (Kd.R_new' ho0 (Kd.R_lt (by (with_reducible repeat (first | apply Kd.R_alloc | apply Kd.R_drewN | apply Kd.R_drew)); exact (Kd.R_mono (Kd.R_far (p := ⟨gb267, 2, none⟩) (Kd.R_far (p := ⟨gb267, 1, none⟩) (Kd.R_far (p := ⟨gb267, 0, none⟩) (Kd.R_types HO254.out BK267.out (by decide)) (fun _ hk => hk.2) (.slice Ao21 t259.length co21)) (fun _ hk => hk.2) (.slice Ao24 t262.length co24)) (fun _ hk => hk.2) (.int .i64 t265)) (fun _ h_ => h_.1))))) (Kd.R_lt (by (with_reducible repeat (first | apply Kd.R_alloc | apply Kd.R_drewN | apply Kd.R_drew)); exact (Kd.R_mono (Kd.R_far (p := ⟨gb267, 2, none⟩) (Kd.R_far (p := ⟨gb267, 1, none⟩) (Kd.R_far (p := ⟨gb267, 0, none⟩) (Kd.R_types HO257.out BK267.out (by decide)) (fun _ hk => hk.2) (.slice Ao21 t259.length co21)) (fun _ hk => hk.2) (.slice Ao24 t262.length co24)) (fun _ hk => hk.2) (.int .i64 t265)) (fun _ h_ => h_.1))))) (Kd.R_lt (by (with_reducible repeat (first | apply Kd.R_alloc | apply Kd.R_drewN | apply Kd.R_drew)); exact (Kd.R_mono (Kd.R_far (p := ⟨gb267, 2, none⟩) (Kd.R_far (p := ⟨gb267, 1, none⟩) (Kd.R_far (p := ⟨gb267, 0, none⟩) (Kd.R_types HO261.out BK267.out (by decide)) (fun _ hk => hk.2) (.slice Ao21 t259.length co21)) (fun _ hk => hk.2) (.slice Ao24 t262.length co24)) (fun _ hk => hk.2) (.int .i64 t265)) (fun _ h_ => h_.1))))) (Kd.R_lt (by (with_reducible repeat (first | apply Kd.R_alloc | apply Kd.R_drewN | apply Kd.R_drew)); exact (Kd.R_mono (Kd.R_far (p := ⟨gb267, 2, none⟩) (Kd.R_far (p := ⟨gb267, 1, none⟩) (Kd.R_far (p := ⟨gb267, 0, none⟩) (Kd.R_types HO264.out BK267.out (by decide)) (fun _ hk => hk.2) (.slice Ao21 t259.length co21)) (fun _ hk => hk.2) (.slice Ao24 t262.length co24)) (fun _ hk => hk.2) (.int .i64 t265)) (fun _ h_ => h_.1))))) (below_size (by repeat (first | (with_reducible first | exact HB.out | apply below_alloc | apply pw_below_drewN | apply below_drew1 | refine below_set ?_ GE250.out | refine below_set ?_ GE267.out) | exact HB.out)))); have n5_ := Aside0.mk (Kd.R_lower (Kd.R_new' (Kd.R_new' (Kd.R_new' (Kd.R_new' ho1 (Kd.R_lt (by (with_reducible repeat (first | apply Kd.R_alloc | apply Kd.R_drewN | apply Kd.R_drew)); exact (Kd.R_mono (Kd.R_far (p := ⟨gb267, 2, none⟩) (Kd.R_far (p := ⟨gb267, 1, none⟩) (Kd.R_far (p := ⟨gb267, 0, none⟩) (Kd.R_types HO254.out BK267.out (by decide)) (fun _ hk => hk.2) (.slice Ao21 t259.length co21)) (fun _ hk => hk.2) (.slice Ao24 t262.length co24)) (fun _ hk => hk.2) (.int .i64 t265)) (fun _ h_ => h_.1))))) (Kd.R_lt (by (with_reducible repeat (first | apply Kd.R_alloc | apply Kd.R_drewN | apply Kd.R_drew)); exact (Kd.R_mono (Kd.R_far (p := ⟨gb267, 2, none⟩) (Kd.R_far (p := ⟨gb267, 1, none⟩) (Kd.R_far (p := ⟨gb267, 0, none⟩) (Kd.R_types HO257.out BK267.out (by decide)) (fun _ hk => hk.2) (.slice Ao21 t259.length co21)) (fun _ hk => hk.2) (.slice Ao24 t262.length co24)) (fun _ hk => hk.2) (.int .i64 t265)) (fun _ h_ => h_.1))))) (Kd.R_lt (by (with_reducible repeat (first | apply Kd.R_alloc | apply Kd.R_drewN | apply Kd.R_drew)); exact (Kd.R_mono (Kd.R_far (p := ⟨gb267, 2, none⟩) (Kd.R_far (p := ⟨gb267, 1, none⟩) (Kd.R_far (p := ⟨gb267, 0, none⟩) (Kd.R_types HO261.out BK267.out (by decide)) (fun _ hk => hk.2) (.slice Ao21 t259.length co21)) (fun _ hk => hk.2) (.slice Ao24 t262.length co24)) (fun _ hk => hk.2) (.int .i64 t265)) (fun _ h_ => h_.1))))) (Kd.R_lt (by (with_reducible repeat (first | apply Kd.R_alloc | apply Kd.R_drewN | apply Kd.R_drew)); exact (Kd.R_mono (Kd.R_far (p := ⟨gb267, 2, none⟩) (Kd.R_far (p := ⟨gb267, 1, none⟩) (Kd.R_far (p := ⟨gb267, 0, none⟩) (Kd.R_types HO264.out BK267.out (by decide)) (fun _ hk => hk.2) (.slice Ao21 t259.length co21)) (fun _ hk => hk.2) (.slice Ao24 t262.length co24)) (fun _ hk => hk.2) (.int .i64 t265)) (fun _ h_ => h_.1))))) (below_size (by repeat (first | (with_reducible first | exact HB.out | apply below_alloc | apply pw_below_drewN | apply below_drew1 | refine below_set ?_ GE250.out | refine below_set ?_ GE267.out) | exact HB.out)))); have n6_ := Aside0.mk (blk_below (g := gb250) (o := .cells #[.slice A0_0 l0_0.length c0_0, .slice A0_1 l0_1.length c0_1, .int .i64 a0_2] 24 (0, 0)) (by (with_reducible repeat (first | refine blk_drewN ?_ _ | refine blk_drew ?_ | refine blk_alloc ?_ _)); refine blk_far ?_ NB250_267.out _; (with_reducible repeat (first | refine blk_drewN ?_ _ | refine blk_drew ?_ | refine blk_alloc ?_ _)); refine blk_far ?_ NB250_267.out _; (with_reducible repeat (first | refine blk_drewN ?_ _ | refine blk_drew ?_ | refine blk_alloc ?_ _)); refine blk_far ?_ NB250_267.out _; (with_reducible repeat (first | refine blk_drewN ?_ _ | refine blk_drew ?_ | refine blk_alloc ?_ _)); exact BK250.out) hb); have n7_ := Aside0.mk (blk_below (g := gb267) (o := .cells #[.slice Ao21 t259.length co21, .slice Ao24 t262.length co24, .int .i64 t265] 27 (0, 0)) (by (with_reducible repeat (first | refine blk_drewN ?_ _ | refine blk_drew ?_ | refine blk_alloc ?_ _)); refine blk_put (cs := #[.slice Ao21 t259.length co21, .slice Ao24 t262.length co24, .int .i64 0]) ?_ 2 _ rfl; (with_reducible repeat (first | refine blk_drewN ?_ _ | refine blk_drew ?_ | refine blk_alloc ?_ _)); refine blk_put (cs := #[.slice Ao21 t259.length co21, .slice none 0 0, .int .i64 0]) ?_ 1 _ rfl; (with_reducible repeat (first | refine blk_drewN ?_ _ | refine blk_drew ?_ | refine blk_alloc ?_ _)); refine blk_put (cs := #[.slice none 0 0, .slice none 0 0, .int .i64 0]) ?_ 0 _ rfl; (with_reducible repeat (first | refine blk_drewN ?_ _ | refine blk_drew ?_ | refine blk_alloc ?_ _)); exact BK267.out) hb); have n8_ := Aside0.mk (below_step (by repeat (first | (with_reducible first | exact HB.out | apply below_alloc | apply pw_below_drewN | apply below_drew1 | refine below_set ?_ GE250.out | refine below_set ?_ GE267.out) | exact HB.out)) hb); clear HO254; clear HO257; clear HO261; clear HO264; clear BK250; clear BK267; clear HB; have HO254 := n0_; have HO257 := n1_; have HO261 := n2_; have HO264 := n3_; have HO270 := n4_; have HO273 := n5_; have BK250 := n6_; have BK267 := n7_; have HB := n8_; clear n0_ n1_ n2_ n3_ n4_ n5_ n6_ n7_ n8_; (try clear hb); (try clear hb2); (try clear hk); (try clear hi); (try clear ho0); (try clear ho1)) | ((with_reducible refine gate_dst (N := 6) rfl ?_); refine box_event ?hg (N := 6) ?hd (cs := #[.slice none 0 0, .slice none 0 0, .int .i64 0]) (t := 27) ?hr ?_; (case hd => rfl); (case hg => rfl); (case hr => first | (go_simp; done) | (go_simp; rfl)); intro gb275 hg w27 hbox hb; have n0_ := Aside0.mk (Kd.R_below (by (with_reducible repeat (first | apply Kd.R_alloc | apply Kd.R_drewN | apply Kd.R_drew)); exact HO254.out) hb); have n1_ := Aside0.mk (Kd.R_below (by (with_reducible repeat (first | apply Kd.R_alloc | apply Kd.R_drewN | apply Kd.R_drew)); exact HO257.out) hb); have n2_ := Aside0.mk (Kd.R_below (by (with_reducible repeat (first | apply Kd.R_alloc | apply Kd.R_drewN | apply Kd.R_drew)); exact HO261.out) hb); have n3_ := Aside0.mk (Kd.R_below (by (with_reducible repeat (first | apply Kd.R_alloc | apply Kd.R_drewN | apply Kd.R_drew)); exact HO264.out) hb); have n4_ := Aside0.mk (Kd.R_below (by (with_reducible repeat (first | apply Kd.R_alloc | apply Kd.R_drewN | apply Kd.R_drew)); exact HO270.out) hb); have n5_ := Aside0.mk (Kd.R_below (by (with_reducible repeat (first | apply Kd.R_alloc | apply Kd.R_drewN | apply Kd.R_drew)); exact HO273.out) hb); have n6_ := Aside0.mk (blk_below (g := gb250) (o := .cells #[.slice A0_0 l0_0.length c0_0, .slice A0_1 l0_1.length c0_1, .int .i64 a0_2] 24 (0, 0)) (by (with_reducible repeat (first | refine blk_drewN ?_ _ | refine blk_drew ?_ | refine blk_alloc ?_ _)); exact BK250.out) hb); have n7_ := Aside0.mk (blk_below (g := gb267) (o := .cells #[.slice Ao21 t259.length co21, .slice Ao24 t262.length co24, .int .i64 t265] 27 (0, 0)) (by (with_reducible repeat (first | refine blk_drewN ?_ _ | refine blk_drew ?_ | refine blk_alloc ?_ _)); exact BK267.out) hb); have n8_ := Aside0.mk (below_step (by repeat (first | (with_reducible first | exact HB.out | apply below_alloc | apply pw_below_drewN | apply below_drew1 | refine below_set ?_ GE250.out | refine below_set ?_ GE267.out) | exact HB.out)) hb); have n9_ := Aside0.mk (hbox); have n10_ := Aside0.mk ((by rw [hg]; exact (below_size (by repeat (first | (with_reducible first | exact HB.out | apply below_alloc | apply pw_below_drewN | apply below_drew1 | refine below_set ?_ GE250.out | refine below_set ?_ GE267.out) | exact HB.out))) : w.heap.size ≤ gb275)); have n11_ := Aside0.mk ((by rw [hg]; exact (below_size (by repeat (first | (with_reducible first | exact HB.out | apply below_alloc | apply pw_below_drewN | apply below_drew1 | refine below_set ?_ GE250.out | refine below_set ?_ GE267.out) | exact HB.out))) : w.heap.size ≤ gb275)); have n12_ := Aside0.mk ((by rw [hg]; exact Nat.ne_of_lt (blk_lt (g := gb250) (o := .cells #[.slice A0_0 l0_0.length c0_0, .slice A0_1 l0_1.length c0_1, .int .i64 a0_2] 24 (0, 0)) (by (with_reducible repeat (first | refine blk_drewN ?_ _ | refine blk_drew ?_ | refine blk_alloc ?_ _)); exact BK250.out)) : gb250 ≠ gb275)); have n13_ := Aside0.mk ((by rw [hg]; exact Nat.ne_of_gt (blk_lt (g := gb250) (o := .cells #[.slice A0_0 l0_0.length c0_0, .slice A0_1 l0_1.length c0_1, .int .i64 a0_2] 24 (0, 0)) (by (with_reducible repeat (first | refine blk_drewN ?_ _ | refine blk_drew ?_ | refine blk_alloc ?_ _)); exact BK250.out)) : gb275 ≠ gb250)); have n14_ := Aside0.mk ((by rw [hg]; exact Nat.ne_of_lt (blk_lt (g := gb267) (o := .cells #[.slice Ao21 t259.length co21, .slice Ao24 t262.length co24, .int .i64 t265] 27 (0, 0)) (by (with_reducible repeat (first | refine blk_drewN ?_ _ | refine blk_drew ?_ | refine blk_alloc ?_ _)); exact BK267.out)) : gb267 ≠ gb275)); have n15_ := Aside0.mk ((by rw [hg]; exact Nat.ne_of_gt (blk_lt (g := gb267) (o := .cells #[.slice Ao21 t259.length co21, .slice Ao24 t262.length co24, .int .i64 t265] 27 (0, 0)) (by (with_reducible repeat (first | refine blk_drewN ?_ _ | refine blk_drew ?_ | refine blk_alloc ?_ _)); exact BK267.out)) : gb275 ≠ gb267)); clear HO254; clear HO257; clear HO261; clear HO264; clear HO270; clear HO273; clear BK250; clear BK267; clear HB; have HO254 := n0_; have HO257 := n1_; have HO261 := n2_; have HO264 := n3_; have HO270 := n4_; have HO273 := n5_; have BK250 := n6_; have BK267 := n7_; have HB := n8_; have BK275 := n9_; have GW275 := n10_; have GE275 := n11_; have NB250_275 := n12_; have NB275_250 := n13_; have NB267_275 := n14_; have NB275_267 := n15_; clear n0_ n1_ n2_ n3_ n4_ n5_ n6_ n7_ n8_ n9_ n10_ n11_ n12_ n13_ n14_ n15_; clear hb hbox hg; obtain ⟨Ao28, co28, eo28⟩ := Kd.R_slice HO270.out; subst eo28; have hnb29 := NB275_250.out; have hnc29 := NB250_275.out; have hnb30 := NB275_267.out; have hnc30 := NB267_275.out; have hcz31_0 : w27.cell? ⟨gb275, 0, none⟩ = some (.slice none 0 0) := (blk_cell BK275.out 0).trans rfl; have hcz31_1 : w27.cell? ⟨gb275, 1, none⟩ = some (.slice none 0 0) := (blk_cell BK275.out 1).trans rfl; have hcz31_2 : w27.cell? ⟨gb275, 2, none⟩ = some (.int .i64 0) := (blk_cell BK275.out 2).trans rfl; have hfz31_0 := blk_frozen BK275.out 0; have hfz31_1 := blk_frozen BK275.out 1; have hfz31_2 := blk_frozen BK275.out 2; obtain ⟨Ao32, co32, eo32⟩ := Kd.R_slice HO273.out; subst eo32) | ((with_reducible refine gate_callee (f := 18) rfl ?_); refine goesL_ (some 29) rfl rfl Try.func18 (by kernel_rfl) rfl #[.agg #[.slice Ao28 t268.length co28, .slice Ao32 t271.length co32, .int .i64 t274]] rfl (by (try simp only [List.map_toArray, List.map_cons, List.map_nil]); first | done | rfl | (simp only [List.length_drop, List.length_take]; rfl)) ?_; (with_reducible refine (impl_MirrorState.calls k _ _ t268 _ _ t271 t274 t276 t279 t282 t283 _ ?side1 ?side2 ?side3 ?side4 A10.out).mono ?_); (case side1 => refine (Kd.R_reads' (e := 3) (base := w.heap.size) (ok := fun k_ => ((((some k_ ≠ (.slice Ao32 t271.length co32 : Value).ownBlock ∧ some k_ ≠ (.slice Ao17 t252.length co17 : Value).ownBlock) ∧ some k_ ≠ (.slice Ao18 t255.length co18 : Value).ownBlock) ∧ some k_ ≠ (.slice Ao21 t259.length co21 : Value).ownBlock) ∧ some k_ ≠ (.slice Ao24 t262.length co24 : Value).ownBlock)) (n := t268.length) (c := co28) ?_).2.2; exact (by (with_reducible repeat (first | apply Kd.R_alloc | apply Kd.R_drewN | apply Kd.R_drew)); exact (Kd.R_mono (Kd.R_far (p := ⟨gb275, 2, none⟩) (Kd.R_far (p := ⟨gb275, 1, none⟩) (Kd.R_far (p := ⟨gb275, 0, none⟩) (Kd.R_types HO270.out BK275.out (by decide)) (fun _ hk => hk.2) (.slice Ao28 t268.length co28)) (fun _ hk => hk.2) (.slice Ao32 t271.length co32)) (fun _ hk => hk.2) (.int .i64 t274)) (fun _ h_ => h_.1)))); (case side2 => exact (Kd.R_reads' HO270.out).2.1); (case side3 => refine (Kd.R_reads' (e := 3) (base := w.heap.size) (ok := fun k_ => ((((some k_ ≠ (.slice Ao28 t268.length co28 : Value).ownBlock ∧ some k_ ≠ (.slice Ao17 t252.length co17 : Value).ownBlock) ∧ some k_ ≠ (.slice Ao18 t255.length co18 : Value).ownBlock) ∧ some k_ ≠ (.slice Ao21 t259.length co21 : Value).ownBlock) ∧ some k_ ≠ (.slice Ao24 t262.length co24 : Value).ownBlock)) (n := t271.length) (c := co32) ?_).2.2; exact (by (with_reducible repeat (first | apply Kd.R_alloc | apply Kd.R_drewN | apply Kd.R_drew)); exact (Kd.R_mono (Kd.R_far (p := ⟨gb275, 2, none⟩) (Kd.R_far (p := ⟨gb275, 1, none⟩) (Kd.R_far (p := ⟨gb275, 0, none⟩) (Kd.R_types HO273.out BK275.out (by decide)) (fun _ hk => hk.2) (.slice Ao28 t268.length co28)) (fun _ hk => hk.2) (.slice Ao32 t271.length co32)) (fun _ hk => hk.2) (.int .i64 t274)) (fun _ h_ => h_.1)))); (case side4 => exact (Kd.R_reads' HO273.out).2.1); rintro e w33 ⟨v277, v280, rfl, ho0, ho1, hb⟩; refine ⟨_, rfl, ?_⟩; have n0_ := Aside0.mk (Kd.R_mono (Kd.R_told (Kd.R_told (Kd.R_old (by (with_reducible repeat (first | apply Kd.R_alloc | apply Kd.R_drewN | apply Kd.R_drew)); exact (Kd.R_mono (Kd.R_far (p := ⟨gb275, 2, none⟩) (Kd.R_far (p := ⟨gb275, 1, none⟩) (Kd.R_far (p := ⟨gb275, 0, none⟩) (Kd.R_types HO254.out BK275.out (by decide)) (fun _ hk => hk.2) (.slice Ao28 t268.length co28)) (fun _ hk => hk.2) (.slice Ao32 t271.length co32)) (fun _ hk => hk.2) (.int .i64 t274)) (fun _ h_ => h_.1))) hb) (Kd.R_base ho0)) (Kd.R_base ho1)) (fun _ h_ => h_.1)); have n1_ := Aside0.mk (Kd.R_mono (Kd.R_told (Kd.R_told (Kd.R_old (by (with_reducible repeat (first | apply Kd.R_alloc | apply Kd.R_drewN | apply Kd.R_drew)); exact (Kd.R_mono (Kd.R_far (p := ⟨gb275, 2, none⟩) (Kd.R_far (p := ⟨gb275, 1, none⟩) (Kd.R_far (p := ⟨gb275, 0, none⟩) (Kd.R_types HO257.out BK275.out (by decide)) (fun _ hk => hk.2) (.slice Ao28 t268.length co28)) (fun _ hk => hk.2) (.slice Ao32 t271.length co32)) (fun _ hk => hk.2) (.int .i64 t274)) (fun _ h_ => h_.1))) hb) (Kd.R_base ho0)) (Kd.R_base ho1)) (fun _ h_ => h_.1)); have n2_ := Aside0.mk (Kd.R_mono (Kd.R_told (Kd.R_told (Kd.R_old (by (with_reducible repeat (first | apply Kd.R_alloc | apply Kd.R_drewN | apply Kd.R_drew)); exact (Kd.R_mono (Kd.R_far (p := ⟨gb275, 2, none⟩) (Kd.R_far (p := ⟨gb275, 1, none⟩) (Kd.R_far (p := ⟨gb275, 0, none⟩) (Kd.R_types HO261.out BK275.out (by decide)) (fun _ hk => hk.2) (.slice Ao28 t268.length co28)) (fun _ hk => hk.2) (.slice Ao32 t271.length co32)) (fun _ hk => hk.2) (.int .i64 t274)) (fun _ h_ => h_.1))) hb) (Kd.R_base ho0)) (Kd.R_base ho1)) (fun _ h_ => h_.1)); have n3_ := Aside0.mk (Kd.R_mono (Kd.R_told (Kd.R_told (Kd.R_old (by (with_reducible repeat (first | apply Kd.R_alloc | apply Kd.R_drewN | apply Kd.R_drew)); exact (Kd.R_mono (Kd.R_far (p := ⟨gb275, 2, none⟩) (Kd.R_far (p := ⟨gb275, 1, none⟩) (Kd.R_far (p := ⟨gb275, 0, none⟩) (Kd.R_types HO264.out BK275.out (by decide)) (fun _ hk => hk.2) (.slice Ao28 t268.length co28)) (fun _ hk => hk.2) (.slice Ao32 t271.length co32)) (fun _ hk => hk.2) (.int .i64 t274)) (fun _ h_ => h_.1))) hb) (Kd.R_base ho0)) (Kd.R_base ho1)) (fun _ h_ => h_.1)); have n4_ := Aside0.mk (Kd.R_mono (Kd.R_told (Kd.R_told (Kd.R_old (by (with_reducible repeat (first | apply Kd.R_alloc | apply Kd.R_drewN | apply Kd.R_drew)); exact (Kd.R_mono (Kd.R_far (p := ⟨gb275, 2, none⟩) (Kd.R_far (p := ⟨gb275, 1, none⟩) (Kd.R_far (p := ⟨gb275, 0, none⟩) (Kd.R_types HO270.out BK275.out (by decide)) (fun _ hk => hk.2) (.slice Ao28 t268.length co28)) (fun _ hk => hk.2) (.slice Ao32 t271.length co32)) (fun _ hk => hk.2) (.int .i64 t274)) (fun _ h_ => h_.1))) hb) (Kd.R_base ho0)) (Kd.R_base ho1)) (fun _ h_ => h_.1)); have n5_ := Aside0.mk (Kd.R_mono (Kd.R_told (Kd.R_told (Kd.R_old (by (with_reducible repeat (first | apply Kd.R_alloc | apply Kd.R_drewN | apply Kd.R_drew)); exact (Kd.R_mono (Kd.R_far (p := ⟨gb275, 2, none⟩) (Kd.R_far (p := ⟨gb275, 1, none⟩) (Kd.R_far (p := ⟨gb275, 0, none⟩) (Kd.R_types HO273.out BK275.out (by decide)) (fun _ hk => hk.2) (.slice Ao28 t268.length co28)) (fun _ hk => hk.2) (.slice Ao32 t271.length co32)) (fun _ hk => hk.2) (.int .i64 t274)) (fun _ h_ => h_.1))) hb) (Kd.R_base ho0)) (Kd.R_base ho1)) (fun _ h_ => h_.1)); have n6_ := Aside0.mk (Kd.R_lower (Kd.R_new' (Kd.R_new' (Kd.R_new' (Kd.R_new' (Kd.R_new' (Kd.R_new' ho0 (Kd.R_lt (by (with_reducible repeat (first | apply Kd.R_alloc | apply Kd.R_drewN | apply Kd.R_drew)); exact (Kd.R_mono (Kd.R_far (p := ⟨gb275, 2, none⟩) (Kd.R_far (p := ⟨gb275, 1, none⟩) (Kd.R_far (p := ⟨gb275, 0, none⟩) (Kd.R_types HO254.out BK275.out (by decide)) (fun _ hk => hk.2) (.slice Ao28 t268.length co28)) (fun _ hk => hk.2) (.slice Ao32 t271.length co32)) (fun _ hk => hk.2) (.int .i64 t274)) (fun _ h_ => h_.1))))) (Kd.R_lt (by (with_reducible repeat (first | apply Kd.R_alloc | apply Kd.R_drewN | apply Kd.R_drew)); exact (Kd.R_mono (Kd.R_far (p := ⟨gb275, 2, none⟩) (Kd.R_far (p := ⟨gb275, 1, none⟩) (Kd.R_far (p := ⟨gb275, 0, none⟩) (Kd.R_types HO257.out BK275.out (by decide)) (fun _ hk => hk.2) (.slice Ao28 t268.length co28)) (fun _ hk => hk.2) (.slice Ao32 t271.length co32)) (fun _ hk => hk.2) (.int .i64 t274)) (fun _ h_ => h_.1))))) (Kd.R_lt (by (with_reducible repeat (first | apply Kd.R_alloc | apply Kd.R_drewN | apply Kd.R_drew)); exact (Kd.R_mono (Kd.R_far (p := ⟨gb275, 2, none⟩) (Kd.R_far (p := ⟨gb275, 1, none⟩) (Kd.R_far (p := ⟨gb275, 0, none⟩) (Kd.R_types HO261.out BK275.out (by decide)) (fun _ hk => hk.2) (.slice Ao28 t268.length co28)) (fun _ hk => hk.2) (.slice Ao32 t271.length co32)) (fun _ hk => hk.2) (.int .i64 t274)) (fun _ h_ => h_.1))))) (Kd.R_lt (by (with_reducible repeat (first | apply Kd.R_alloc | apply Kd.R_drewN | apply Kd.R_drew)); exact (Kd.R_mono (Kd.R_far (p := ⟨gb275, 2, none⟩) (Kd.R_far (p := ⟨gb275, 1, none⟩) (Kd.R_far (p := ⟨gb275, 0, none⟩) (Kd.R_types HO264.out BK275.out (by decide)) (fun _ hk => hk.2) (.slice Ao28 t268.length co28)) (fun _ hk => hk.2) (.slice Ao32 t271.length co32)) (fun _ hk => hk.2) (.int .i64 t274)) (fun _ h_ => h_.1))))) (Kd.R_lt (by (with_reducible repeat (first | apply Kd.R_alloc | apply Kd.R_drewN | apply Kd.R_drew)); exact (Kd.R_mono (Kd.R_far (p := ⟨gb275, 2, none⟩) (Kd.R_far (p := ⟨gb275, 1, none⟩) (Kd.R_far (p := ⟨gb275, 0, none⟩) (Kd.R_types HO270.out BK275.out (by decide)) (fun _ hk => hk.2) (.slice Ao28 t268.length co28)) (fun _ hk => hk.2) (.slice Ao32 t271.length co32)) (fun _ hk => hk.2) (.int .i64 t274)) (fun _ h_ => h_.1))))) (Kd.R_lt (by (with_reducible repeat (first | apply Kd.R_alloc | apply Kd.R_drewN | apply Kd.R_drew)); exact (Kd.R_mono (Kd.R_far (p := ⟨gb275, 2, none⟩) (Kd.R_far (p := ⟨gb275, 1, none⟩) (Kd.R_far (p := ⟨gb275, 0, none⟩) (Kd.R_types HO273.out BK275.out (by decide)) (fun _ hk => hk.2) (.slice Ao28 t268.length co28)) (fun _ hk => hk.2) (.slice Ao32 t271.length co32)) (fun _ hk => hk.2) (.int .i64 t274)) (fun _ h_ => h_.1))))) (below_size (by repeat (first | (with_reducible first | exact HB.out | apply below_alloc | apply pw_below_drewN | apply below_drew1 | refine below_set ?_ GE250.out | refine below_set ?_ GE267.out | refine below_set ?_ GE275.out) | exact HB.out)))); have n7_ := Aside0.mk (Kd.R_lower (Kd.R_new' (Kd.R_new' (Kd.R_new' (Kd.R_new' (Kd.R_new' (Kd.R_new' ho1 (Kd.R_lt (by (with_reducible repeat (first | apply Kd.R_alloc | apply Kd.R_drewN | apply Kd.R_drew)); exact (Kd.R_mono (Kd.R_far (p := ⟨gb275, 2, none⟩) (Kd.R_far (p := ⟨gb275, 1, none⟩) (Kd.R_far (p := ⟨gb275, 0, none⟩) (Kd.R_types HO254.out BK275.out (by decide)) (fun _ hk => hk.2) (.slice Ao28 t268.length co28)) (fun _ hk => hk.2) (.slice Ao32 t271.length co32)) (fun _ hk => hk.2) (.int .i64 t274)) (fun _ h_ => h_.1))))) (Kd.R_lt (by (with_reducible repeat (first | apply Kd.R_alloc | apply Kd.R_drewN | apply Kd.R_drew)); exact (Kd.R_mono (Kd.R_far (p := ⟨gb275, 2, none⟩) (Kd.R_far (p := ⟨gb275, 1, none⟩) (Kd.R_far (p := ⟨gb275, 0, none⟩) (Kd.R_types HO257.out BK275.out (by decide)) (fun _ hk => hk.2) (.slice Ao28 t268.length co28)) (fun _ hk => hk.2) (.slice Ao32 t271.length co32)) (fun _ hk => hk.2) (.int .i64 t274)) (fun _ h_ => h_.1))))) (Kd.R_lt (by (with_reducible repeat (first | apply Kd.R_alloc | apply Kd.R_drewN | apply Kd.R_drew)); exact (Kd.R_mono (Kd.R_far (p := ⟨gb275, 2, none⟩) (Kd.R_far (p := ⟨gb275, 1, none⟩) (Kd.R_far (p := ⟨gb275, 0, none⟩) (Kd.R_types HO261.out BK275.out (by decide)) (fun _ hk => hk.2) (.slice Ao28 t268.length co28)) (fun _ hk => hk.2) (.slice Ao32 t271.length co32)) (fun _ hk => hk.2) (.int .i64 t274)) (fun _ h_ => h_.1))))) (Kd.R_lt (by (with_reducible repeat (first | apply Kd.R_alloc | apply Kd.R_drewN | apply Kd.R_drew)); exact (Kd.R_mono (Kd.R_far (p := ⟨gb275, 2, none⟩) (Kd.R_far (p := ⟨gb275, 1, none⟩) (Kd.R_far (p := ⟨gb275, 0, none⟩) (Kd.R_types HO264.out BK275.out (by decide)) (fun _ hk => hk.2) (.slice Ao28 t268.length co28)) (fun _ hk => hk.2) (.slice Ao32 t271.length co32)) (fun _ hk => hk.2) (.int .i64 t274)) (fun _ h_ => h_.1))))) (Kd.R_lt (by (with_reducible repeat (first | apply Kd.R_alloc | apply Kd.R_drewN | apply Kd.R_drew)); exact (Kd.R_mono (Kd.R_far (p := ⟨gb275, 2, none⟩) (Kd.R_far (p := ⟨gb275, 1, none⟩) (Kd.R_far (p := ⟨gb275, 0, none⟩) (Kd.R_types HO270.out BK275.out (by decide)) (fun _ hk => hk.2) (.slice Ao28 t268.length co28)) (fun _ hk => hk.2) (.slice Ao32 t271.length co32)) (fun _ hk => hk.2) (.int .i64 t274)) (fun _ h_ => h_.1))))) (Kd.R_lt (by (with_reducible repeat (first | apply Kd.R_alloc | apply Kd.R_drewN | apply Kd.R_drew)); exact (Kd.R_mono (Kd.R_far (p := ⟨gb275, 2, none⟩) (Kd.R_far (p := ⟨gb275, 1, none⟩) (Kd.R_far (p := ⟨gb275, 0, none⟩) (Kd.R_types HO273.out BK275.out (by decide)) (fun _ hk => hk.2) (.slice Ao28 t268.length co28)) (fun _ hk => hk.2) (.slice Ao32 t271.length co32)) (fun _ hk => hk.2) (.int .i64 t274)) (fun _ h_ => h_.1))))) (below_size (by repeat (first | (with_reducible first | exact HB.out | apply below_alloc | apply pw_below_drewN | apply below_drew1 | refine below_set ?_ GE250.out | refine below_set ?_ GE267.out | refine below_set ?_ GE275.out) | exact HB.out)))); have n8_ := Aside0.mk (blk_below (g := gb250) (o := .cells #[.slice A0_0 l0_0.length c0_0, .slice A0_1 l0_1.length c0_1, .int .i64 a0_2] 24 (0, 0)) (by (with_reducible repeat (first | refine blk_drewN ?_ _ | refine blk_drew ?_ | refine blk_alloc ?_ _)); refine blk_far ?_ NB250_275.out _; (with_reducible repeat (first | refine blk_drewN ?_ _ | refine blk_drew ?_ | refine blk_alloc ?_ _)); refine blk_far ?_ NB250_275.out _; (with_reducible repeat (first | refine blk_drewN ?_ _ | refine blk_drew ?_ | refine blk_alloc ?_ _)); refine blk_far ?_ NB250_275.out _; (with_reducible repeat (first | refine blk_drewN ?_ _ | refine blk_drew ?_ | refine blk_alloc ?_ _)); exact BK250.out) hb); have n9_ := Aside0.mk (blk_below (g := gb267) (o := .cells #[.slice Ao21 t259.length co21, .slice Ao24 t262.length co24, .int .i64 t265] 27 (0, 0)) (by (with_reducible repeat (first | refine blk_drewN ?_ _ | refine blk_drew ?_ | refine blk_alloc ?_ _)); refine blk_far ?_ NB267_275.out _; (with_reducible repeat (first | refine blk_drewN ?_ _ | refine blk_drew ?_ | refine blk_alloc ?_ _)); refine blk_far ?_ NB267_275.out _; (with_reducible repeat (first | refine blk_drewN ?_ _ | refine blk_drew ?_ | refine blk_alloc ?_ _)); refine blk_far ?_ NB267_275.out _; (with_reducible repeat (first | refine blk_drewN ?_ _ | refine blk_drew ?_ | refine blk_alloc ?_ _)); exact BK267.out) hb); have n10_ := Aside0.mk (blk_below (g := gb275) (o := .cells #[.slice Ao28 t268.length co28, .slice Ao32 t271.length co32, .int .i64 t274] 27 (0, 0)) (by (with_reducible repeat (first | refine blk_drewN ?_ _ | refine blk_drew ?_ | refine blk_alloc ?_ _)); refine blk_put (cs := #[.slice Ao28 t268.length co28, .slice Ao32 t271.length co32, .int .i64 0]) ?_ 2 _ rfl; (with_reducible repeat (first | refine blk_drewN ?_ _ | refine blk_drew ?_ | refine blk_alloc ?_ _)); refine blk_put (cs := #[.slice Ao28 t268.length co28, .slice none 0 0, .int .i64 0]) ?_ 1 _ rfl; (with_reducible repeat (first | refine blk_drewN ?_ _ | refine blk_drew ?_ | refine blk_alloc ?_ _)); refine blk_put (cs := #[.slice none 0 0, .slice none 0 0, .int .i64 0]) ?_ 0 _ rfl; (with_reducible repeat (first | refine blk_drewN ?_ _ | refine blk_drew ?_ | refine blk_alloc ?_ _)); exact BK275.out) hb); have n11_ := Aside0.mk (below_step (by repeat (first | (with_reducible first | exact HB.out | apply below_alloc | apply pw_below_drewN | apply below_drew1 | refine below_set ?_ GE250.out | refine below_set ?_ GE267.out | refine below_set ?_ GE275.out) | exact HB.out)) hb); clear HO254; clear HO257; clear HO261; clear HO264; clear HO270; clear HO273; clear BK250; clear BK267; clear BK275; clear HB; have HO254 := n0_; have HO257 := n1_; have HO261 := n2_; have HO264 := n3_; have HO270 := n4_; have HO273 := n5_; have HO278 := n6_; have HO281 := n7_; have BK250 := n8_; have BK267 := n9_; have BK275 := n10_; have HB := n11_; clear n0_ n1_ n2_ n3_ n4_ n5_ n6_ n7_ n8_ n9_ n10_ n11_; (try clear hb); (try clear hb2); (try clear hk); (try clear hi); (try clear ho0); (try clear ho1)) | ((with_reducible refine gate_dst (N := 7) rfl ?_); refine box_event ?hg (N := 7) ?hd (cs := #[.slice none 0 0, .slice none 0 0, .int .i64 0]) (t := 27) ?hr ?_; (case hd => rfl); (case hg => rfl); (case hr => first | (go_simp; done) | (go_simp; rfl)); intro gb284 hg w34 hbox hb; have n0_ := Aside0.mk (Kd.R_below (by (with_reducible repeat (first | apply Kd.R_alloc | apply Kd.R_drewN | apply Kd.R_drew)); exact HO254.out) hb); have n1_ := Aside0.mk (Kd.R_below (by (with_reducible repeat (first | apply Kd.R_alloc | apply Kd.R_drewN | apply Kd.R_drew)); exact HO257.out) hb); have n2_ := Aside0.mk (Kd.R_below (by (with_reducible repeat (first | apply Kd.R_alloc | apply Kd.R_drewN | apply Kd.R_drew)); exact HO261.out) hb); have n3_ := Aside0.mk (Kd.R_below (by (with_reducible repeat (first | apply Kd.R_alloc | apply Kd.R_drewN | apply Kd.R_drew)); exact HO264.out) hb); have n4_ := Aside0.mk (Kd.R_below (by (with_reducible repeat (first | apply Kd.R_alloc | apply Kd.R_drewN | apply Kd.R_drew)); exact HO270.out) hb); have n5_ := Aside0.mk (Kd.R_below (by (with_reducible repeat (first | apply Kd.R_alloc | apply Kd.R_drewN | apply Kd.R_drew)); exact HO273.out) hb); have n6_ := Aside0.mk (Kd.R_below (by (with_reducible repeat (first | apply Kd.R_alloc | apply Kd.R_drewN | apply Kd.R_drew)); exact HO278.out) hb); have n7_ := Aside0.mk (Kd.R_below (by (with_reducible repeat (first | apply Kd.R_alloc | apply Kd.R_drewN | apply Kd.R_drew)); exact HO281.out) hb); have n8_ := Aside0.mk (blk_below (g := gb250) (o := .cells #[.slice A0_0 l0_0.length c0_0, .slice A0_1 l0_1.length c0_1, .int .i64 a0_2] 24 (0, 0)) (by (with_reducible repeat (first | refine blk_drewN ?_ _ | refine blk_drew ?_ | refine blk_alloc ?_ _)); exact BK250.out) hb); have n9_ := Aside0.mk (blk_below (g := gb267) (o := .cells #[.slice Ao21 t259.length co21, .slice Ao24 t262.length co24, .int .i64 t265] 27 (0, 0)) (by (with_reducible repeat (first | refine blk_drewN ?_ _ | refine blk_drew ?_ | refine blk_alloc ?_ _)); exact BK267.out) hb); have n10_ := Aside0.mk (blk_below (g := gb275) (o := .cells #[.slice Ao28 t268.length co28, .slice Ao32 t271.length co32, .int .i64 t274] 27 (0, 0)) (by (with_reducible repeat (first | refine blk_drewN ?_ _ | refine blk_drew ?_ | refine blk_alloc ?_ _)); exact BK275.out) hb); have n11_ := Aside0.mk (below_step (by repeat (first | (with_reducible first | exact HB.out | apply below_alloc | apply pw_below_drewN | apply below_drew1 | refine below_set ?_ GE250.out | refine below_set ?_ GE267.out | refine below_set ?_ GE275.out) | exact HB.out)) hb); have n12_ := Aside0.mk (hbox); have n13_ := Aside0.mk ((by rw [hg]; exact (below_size (by repeat (first | (with_reducible first | exact HB.out | apply below_alloc | apply pw_below_drewN | apply below_drew1 | refine below_set ?_ GE250.out | refine below_set ?_ GE267.out | refine below_set ?_ GE275.out) | exact HB.out))) : w.heap.size ≤ gb284)); have n14_ := Aside0.mk ((by rw [hg]; exact (below_size (by repeat (first | (with_reducible first | exact HB.out | apply below_alloc | apply pw_below_drewN | apply below_drew1 | refine below_set ?_ GE250.out | refine below_set ?_ GE267.out | refine below_set ?_ GE275.out) | exact HB.out))) : w.heap.size ≤ gb284)); have n15_ := Aside0.mk ((by rw [hg]; exact Nat.ne_of_lt (blk_lt (g := gb250) (o := .cells #[.slice A0_0 l0_0.length c0_0, .slice A0_1 l0_1.length c0_1, .int .i64 a0_2] 24 (0, 0)) (by (with_reducible repeat (first | refine blk_drewN ?_ _ | refine blk_drew ?_ | refine blk_alloc ?_ _)); exact BK250.out)) : gb250 ≠ gb284)); have n16_ := Aside0.mk ((by rw [hg]; exact Nat.ne_of_gt (blk_lt (g := gb250) (o := .cells #[.slice A0_0 l0_0.length c0_0, .slice A0_1 l0_1.length c0_1, .int .i64 a0_2] 24 (0, 0)) (by (with_reducible repeat (first | refine blk_drewN ?_ _ | refine blk_drew ?_ | refine blk_alloc ?_ _)); exact BK250.out)) : gb284 ≠ gb250)); have n17_ := Aside0.mk ((by rw [hg]; exact Nat.ne_of_lt (blk_lt (g := gb267) (o := .cells #[.slice Ao21 t259.length co21, .slice Ao24 t262.length co24, .int .i64 t265] 27 (0, 0)) (by (with_reducible repeat (first | refine blk_drewN ?_ _ | refine blk_drew ?_ | refine blk_alloc ?_ _)); exact BK267.out)) : gb267 ≠ gb284)); have n18_ := Aside0.mk ((by rw [hg]; exact Nat.ne_of_gt (blk_lt (g := gb267) (o := .cells #[.slice Ao21 t259.length co21, .slice Ao24 t262.length co24, .int .i64 t265] 27 (0, 0)) (by (with_reducible repeat (first | refine blk_drewN ?_ _ | refine blk_drew ?_ | refine blk_alloc ?_ _)); exact BK267.out)) : gb284 ≠ gb267)); have n19_ := Aside0.mk ((by rw [hg]; exact Nat.ne_of_lt (blk_lt (g := gb275) (o := .cells #[.slice Ao28 t268.length co28, .slice Ao32 t271.length co32, .int .i64 t274] 27 (0, 0)) (by (with_reducible repeat (first | refine blk_drewN ?_ _ | refine blk_drew ?_ | refine blk_alloc ?_ _)); exact BK275.out)) : gb275 ≠ gb284)); have n20_ := Aside0.mk ((by rw [hg]; exact Nat.ne_of_gt (blk_lt (g := gb275) (o := .cells #[.slice Ao28 t268.length co28, .slice Ao32 t271.length co32, .int .i64 t274] 27 (0, 0)) (by (with_reducible repeat (first | refine blk_drewN ?_ _ | refine blk_drew ?_ | refine blk_alloc ?_ _)); exact BK275.out)) : gb284 ≠ gb275)); clear HO254; clear HO257; clear HO261; clear HO264; clear HO270; clear HO273; clear HO278; clear HO281; clear BK250; clear BK267; clear BK275; clear HB; have HO254 := n0_; have HO257 := n1_; have HO261 := n2_; have HO264 := n3_; have HO270 := n4_; have HO273 := n5_; have HO278 := n6_; have HO281 := n7_; have BK250 := n8_; have BK267 := n9_; have BK275 := n10_; have HB := n11_; have BK284 := n12_; have GW284 := n13_; have GE284 := n14_; have NB250_284 := n15_; have NB284_250 := n16_; have NB267_284 := n17_; have NB284_267 := n18_; have NB275_284 := n19_; have NB284_275 := n20_; clear n0_ n1_ n2_ n3_ n4_ n5_ n6_ n7_ n8_ n9_ n10_ n11_ n12_ n13_ n14_ n15_ n16_ n17_ n18_ n19_ n20_; clear hb hbox hg; obtain ⟨Ao35, co35, eo35⟩ := Kd.R_slice HO278.out; subst eo35; have hnb36 := NB284_250.out; have hnc36 := NB250_284.out; have hnb37 := NB284_267.out; have hnc37 := NB267_284.out; have hnb38 := NB284_275.out; have hnc38 := NB275_284.out; have hcz39_0 : w34.cell? ⟨gb284, 0, none⟩ = some (.slice none 0 0) := (blk_cell BK284.out 0).trans rfl; have hcz39_1 : w34.cell? ⟨gb284, 1, none⟩ = some (.slice none 0 0) := (blk_cell BK284.out 1).trans rfl; have hcz39_2 : w34.cell? ⟨gb284, 2, none⟩ = some (.int .i64 0) := (blk_cell BK284.out 2).trans rfl; have hfz39_0 := blk_frozen BK284.out 0; have hfz39_1 := blk_frozen BK284.out 1; have hfz39_2 := blk_frozen BK284.out 2; obtain ⟨Ao40, co40, eo40⟩ := Kd.R_slice HO281.out; subst eo40))
    (try simp only [Act.put, List.setIfInBounds_toArray, List.set_cons_zero, List.set_cons_succ])
    go_cut [40] (fun v40 wc => ∃ (kq : Nat) (x40_10 : Bool), v40 = .bool x40_10 ∧ Aside0 (laws_FnExactMirrorState.j0 kq t266 t283 x40_10 l0_0 l0_1 a0_2 t259 t262 t265 t268 t271 t274 t276 t279 t282 = some r) ∧ Aside0 (kq ≤ k) ∧ Aside0 (Kd.R (Kd.int .i64) 3 wc w.heap.size (fun k_ => some k_ ≠ ((.slice Ao24 t262.length co24) : Value).ownBlock ∧ some k_ ≠ ((.slice Ao28 t268.length co28) : Value).ownBlock ∧ some k_ ≠ ((.slice Ao32 t271.length co32) : Value).ownBlock ∧ some k_ ≠ ((.slice Ao35 t276.length co35) : Value).ownBlock ∧ some k_ ≠ ((.slice Ao40 t279.length co40) : Value).ownBlock) (.slice Ao21 t259.length co21) t259) ∧ Aside0 (Kd.R (Kd.int .i64) 3 wc w.heap.size (fun k_ => some k_ ≠ ((.slice Ao21 t259.length co21) : Value).ownBlock ∧ some k_ ≠ ((.slice Ao28 t268.length co28) : Value).ownBlock ∧ some k_ ≠ ((.slice Ao32 t271.length co32) : Value).ownBlock ∧ some k_ ≠ ((.slice Ao35 t276.length co35) : Value).ownBlock ∧ some k_ ≠ ((.slice Ao40 t279.length co40) : Value).ownBlock) (.slice Ao24 t262.length co24) t262) ∧ Aside0 (Kd.R (Kd.int .i64) 3 wc w.heap.size (fun k_ => some k_ ≠ ((.slice Ao21 t259.length co21) : Value).ownBlock ∧ some k_ ≠ ((.slice Ao24 t262.length co24) : Value).ownBlock ∧ some k_ ≠ ((.slice Ao32 t271.length co32) : Value).ownBlock ∧ some k_ ≠ ((.slice Ao35 t276.length co35) : Value).ownBlock ∧ some k_ ≠ ((.slice Ao40 t279.length co40) : Value).ownBlock) (.slice Ao28 t268.length co28) t268) ∧ Aside0 (Kd.R (Kd.int .i64) 3 wc w.heap.size (fun k_ => some k_ ≠ ((.slice Ao21 t259.length co21) : Value).ownBlock ∧ some k_ ≠ ((.slice Ao24 t262.length co24) : Value).ownBlock ∧ some k_ ≠ ((.slice Ao28 t268.length co28) : Value).ownBlock ∧ some k_ ≠ ((.slice Ao35 t276.length co35) : Value).ownBlock ∧ some k_ ≠ ((.slice Ao40 t279.length co40) : Value).ownBlock) (.slice Ao32 t271.length co32) t271) ∧ Aside0 (Kd.R (Kd.int .i64) 3 wc w.heap.size (fun k_ => some k_ ≠ ((.slice Ao21 t259.length co21) : Value).ownBlock ∧ some k_ ≠ ((.slice Ao24 t262.length co24) : Value).ownBlock ∧ some k_ ≠ ((.slice Ao28 t268.length co28) : Value).ownBlock ∧ some k_ ≠ ((.slice Ao32 t271.length co32) : Value).ownBlock ∧ some k_ ≠ ((.slice Ao40 t279.length co40) : Value).ownBlock) (.slice Ao35 t276.length co35) t276) ∧ Aside0 (Kd.R (Kd.int .i64) 3 wc w.heap.size (fun k_ => some k_ ≠ ((.slice Ao21 t259.length co21) : Value).ownBlock ∧ some k_ ≠ ((.slice Ao24 t262.length co24) : Value).ownBlock ∧ some k_ ≠ ((.slice Ao28 t268.length co28) : Value).ownBlock ∧ some k_ ≠ ((.slice Ao32 t271.length co32) : Value).ownBlock ∧ some k_ ≠ ((.slice Ao35 t276.length co35) : Value).ownBlock) (.slice Ao40 t279.length co40) t279) ∧ Aside0 (wc.heap[gb250]? = some (.cells #[(.slice A0_0 l0_0.length c0_0), (.slice A0_1 l0_1.length c0_1), .int .i64 a0_2] 24 (0, 0))) ∧ Aside0 (wc.heap[gb267]? = some (.cells #[(.slice Ao21 t259.length co21), (.slice Ao24 t262.length co24), .int .i64 t265] 27 (0, 0))) ∧ Aside0 (wc.heap[gb275]? = some (.cells #[(.slice Ao28 t268.length co28), (.slice Ao32 t271.length co32), .int .i64 t274] 27 (0, 0))) ∧ Aside0 (wc.heap[gb284]? = some (.cells #[(.slice Ao35 t276.length co35), (.slice Ao40 t279.length co40), .int .i64 t282] 27 (0, 0))) ∧ Aside0 (Below w.heap.size w wc))
    case first =>
      have H := HC11.out
      clear HC11
      replace H := Option.bind_eq_some_iff.mp H
      obtain ⟨t285, A410, H⟩ := H
      replace H : (if t285 = true then (laws_FnExactMirrorState.j0 k t266 t283 (t283 != t266) l0_0 l0_1 a0_2 t259 t262 t265 t268 t271 t274 t276 t279 t282) else (laws_FnExactMirrorState.j0 k t266 t283 true l0_0 l0_1 a0_2 t259 t262 t265 t268 t271 t274 t276 t279 t282)) = some r := H
      have A41 := Aside0.mk A410
      clear A410
      by_cases c42 : t285 = true
      · subst c42
        have H1 : (laws_FnExactMirrorState.j0 k t266 t283 (t283 != t266) l0_0 l0_1 a0_2 t259 t262 t265 t268 t271 t274 t276 t279 t282) = some r := by rw [if_pos rfl] at H; exact H
        clear H
        have H := H1
        clear H1
        have H' := Aside0.mk H
        clear H
        have hnb43 := NB284_250.out
        have hnc43 := NB250_284.out
        have hnb44 := NB284_267.out
        have hnc44 := NB267_284.out
        have hnb45 := NB284_275.out
        have hnc45 := NB275_284.out
        have hcz46_0 : w34.cell? ⟨gb284, 0, none⟩ = some (.slice none 0 0) := (blk_cell BK284.out 0).trans rfl
        have hcz46_1 : w34.cell? ⟨gb284, 1, none⟩ = some (.slice none 0 0) := (blk_cell BK284.out 1).trans rfl
        have hcz46_2 : w34.cell? ⟨gb284, 2, none⟩ = some (.int .i64 0) := (blk_cell BK284.out 2).trans rfl
        have hfz46_0 := blk_frozen BK284.out 0
        have hfz46_1 := blk_frozen BK284.out 1
        have hfz46_2 := blk_frozen BK284.out 2
        have hnb47 := NB267_250.out
        have hnc47 := NB250_267.out
        have hnb48 := NB267_275.out
        have hnc48 := NB275_267.out
        have hcz49_0 : w34.cell? ⟨gb267, 0, none⟩ = some (.slice Ao21 t259.length co21) := (blk_cell BK267.out 0).trans rfl
        have hcz49_1 : w34.cell? ⟨gb267, 1, none⟩ = some (.slice Ao24 t262.length co24) := (blk_cell BK267.out 1).trans rfl
        have hcz49_2 : w34.cell? ⟨gb267, 2, none⟩ = some (.int .i64 t265) := (blk_cell BK267.out 2).trans rfl
        have hfz49_0 := blk_frozen BK267.out 0
        have hfz49_1 := blk_frozen BK267.out 1
        have hfz49_2 := blk_frozen BK267.out 2
        go_wp2_with (first | ((with_reducible refine gate_callee (f := 14) rfl ?_); refine goesL_ (some 34) rfl rfl Try.func14 (by kernel_rfl) rfl #[.agg #[.slice Ao35 t276.length co35, .slice Ao40 t279.length co40, .int .i64 t282], .agg #[.slice Ao21 t259.length co21, .slice Ao24 t262.length co24, .int .i64 t265]] rfl (by (try simp only [List.map_toArray, List.map_cons, List.map_nil]); first | done | rfl | (simp only [List.length_drop, List.length_take]; rfl)) ?_; (with_reducible refine (laws_eqState.calls k _ _ t276 _ _ t279 t282 _ _ t259 _ _ t262 t265 true _ ?side1 ?side2 ?side3 ?side4 ?side5 ?side6 ?side7 ?side8 A41.out).mono ?_); (case side1 => refine (Kd.R_reads' (e := 3) (base := w.heap.size) (ok := fun k_ => ((((((some k_ ≠ (.slice Ao40 t279.length co40 : Value).ownBlock ∧ some k_ ≠ (.slice Ao17 t252.length co17 : Value).ownBlock) ∧ some k_ ≠ (.slice Ao18 t255.length co18 : Value).ownBlock) ∧ some k_ ≠ (.slice Ao21 t259.length co21 : Value).ownBlock) ∧ some k_ ≠ (.slice Ao24 t262.length co24 : Value).ownBlock) ∧ some k_ ≠ (.slice Ao28 t268.length co28 : Value).ownBlock) ∧ some k_ ≠ (.slice Ao32 t271.length co32 : Value).ownBlock)) (n := t276.length) (c := co35) ?_).2.2; exact (by (with_reducible repeat (first | apply Kd.R_alloc | apply Kd.R_drewN | apply Kd.R_drew)); exact (Kd.R_mono (Kd.R_far (p := ⟨gb284, 2, none⟩) (Kd.R_far (p := ⟨gb284, 1, none⟩) (Kd.R_far (p := ⟨gb284, 0, none⟩) (Kd.R_types HO278.out BK284.out (by decide)) (fun _ hk => hk.2) (.slice Ao35 t276.length co35)) (fun _ hk => hk.2) (.slice Ao40 t279.length co40)) (fun _ hk => hk.2) (.int .i64 t282)) (fun _ h_ => h_.1)))); (case side2 => exact (Kd.R_reads' HO278.out).2.1); (case side3 => refine (Kd.R_reads' (e := 3) (base := w.heap.size) (ok := fun k_ => ((((((some k_ ≠ (.slice Ao35 t276.length co35 : Value).ownBlock ∧ some k_ ≠ (.slice Ao17 t252.length co17 : Value).ownBlock) ∧ some k_ ≠ (.slice Ao18 t255.length co18 : Value).ownBlock) ∧ some k_ ≠ (.slice Ao21 t259.length co21 : Value).ownBlock) ∧ some k_ ≠ (.slice Ao24 t262.length co24 : Value).ownBlock) ∧ some k_ ≠ (.slice Ao28 t268.length co28 : Value).ownBlock) ∧ some k_ ≠ (.slice Ao32 t271.length co32 : Value).ownBlock)) (n := t279.length) (c := co40) ?_).2.2; exact (by (with_reducible repeat (first | apply Kd.R_alloc | apply Kd.R_drewN | apply Kd.R_drew)); exact (Kd.R_mono (Kd.R_far (p := ⟨gb284, 2, none⟩) (Kd.R_far (p := ⟨gb284, 1, none⟩) (Kd.R_far (p := ⟨gb284, 0, none⟩) (Kd.R_types HO281.out BK284.out (by decide)) (fun _ hk => hk.2) (.slice Ao35 t276.length co35)) (fun _ hk => hk.2) (.slice Ao40 t279.length co40)) (fun _ hk => hk.2) (.int .i64 t282)) (fun _ h_ => h_.1)))); (case side4 => exact (Kd.R_reads' HO281.out).2.1); (case side5 => refine (Kd.R_reads' (e := 3) (base := w.heap.size) (ok := fun k_ => ((((((some k_ ≠ (.slice Ao24 t262.length co24 : Value).ownBlock ∧ some k_ ≠ (.slice Ao17 t252.length co17 : Value).ownBlock) ∧ some k_ ≠ (.slice Ao18 t255.length co18 : Value).ownBlock) ∧ some k_ ≠ (.slice Ao28 t268.length co28 : Value).ownBlock) ∧ some k_ ≠ (.slice Ao32 t271.length co32 : Value).ownBlock) ∧ some k_ ≠ (.slice Ao35 t276.length co35 : Value).ownBlock) ∧ some k_ ≠ (.slice Ao40 t279.length co40 : Value).ownBlock)) (n := t259.length) (c := co21) ?_).2.2; exact (by (with_reducible repeat (first | apply Kd.R_alloc | apply Kd.R_drewN | apply Kd.R_drew)); exact (Kd.R_mono (Kd.R_far (p := ⟨gb284, 2, none⟩) (Kd.R_far (p := ⟨gb284, 1, none⟩) (Kd.R_far (p := ⟨gb284, 0, none⟩) (Kd.R_types HO261.out BK284.out (by decide)) (fun _ hk => hk.2) (.slice Ao35 t276.length co35)) (fun _ hk => hk.2) (.slice Ao40 t279.length co40)) (fun _ hk => hk.2) (.int .i64 t282)) (fun _ h_ => h_.1)))); (case side6 => exact (Kd.R_reads' HO261.out).2.1); (case side7 => refine (Kd.R_reads' (e := 3) (base := w.heap.size) (ok := fun k_ => ((((((some k_ ≠ (.slice Ao21 t259.length co21 : Value).ownBlock ∧ some k_ ≠ (.slice Ao17 t252.length co17 : Value).ownBlock) ∧ some k_ ≠ (.slice Ao18 t255.length co18 : Value).ownBlock) ∧ some k_ ≠ (.slice Ao28 t268.length co28 : Value).ownBlock) ∧ some k_ ≠ (.slice Ao32 t271.length co32 : Value).ownBlock) ∧ some k_ ≠ (.slice Ao35 t276.length co35 : Value).ownBlock) ∧ some k_ ≠ (.slice Ao40 t279.length co40 : Value).ownBlock)) (n := t262.length) (c := co24) ?_).2.2; exact (by (with_reducible repeat (first | apply Kd.R_alloc | apply Kd.R_drewN | apply Kd.R_drew)); exact (Kd.R_mono (Kd.R_far (p := ⟨gb284, 2, none⟩) (Kd.R_far (p := ⟨gb284, 1, none⟩) (Kd.R_far (p := ⟨gb284, 0, none⟩) (Kd.R_types HO264.out BK284.out (by decide)) (fun _ hk => hk.2) (.slice Ao35 t276.length co35)) (fun _ hk => hk.2) (.slice Ao40 t279.length co40)) (fun _ hk => hk.2) (.int .i64 t282)) (fun _ h_ => h_.1)))); (case side8 => exact (Kd.R_reads' HO264.out).2.1); rintro e w50 ⟨rfl, hb⟩; refine ⟨_, rfl, ?_⟩; have n0_ := Aside0.mk (Kd.R_below (by (with_reducible repeat (first | apply Kd.R_alloc | apply Kd.R_drewN | apply Kd.R_drew)); exact (Kd.R_mono (Kd.R_far (p := ⟨gb284, 2, none⟩) (Kd.R_far (p := ⟨gb284, 1, none⟩) (Kd.R_far (p := ⟨gb284, 0, none⟩) (Kd.R_types HO254.out BK284.out (by decide)) (fun _ hk => hk.2) (.slice Ao35 t276.length co35)) (fun _ hk => hk.2) (.slice Ao40 t279.length co40)) (fun _ hk => hk.2) (.int .i64 t282)) (fun _ h_ => h_.1))) hb); have n1_ := Aside0.mk (Kd.R_below (by (with_reducible repeat (first | apply Kd.R_alloc | apply Kd.R_drewN | apply Kd.R_drew)); exact (Kd.R_mono (Kd.R_far (p := ⟨gb284, 2, none⟩) (Kd.R_far (p := ⟨gb284, 1, none⟩) (Kd.R_far (p := ⟨gb284, 0, none⟩) (Kd.R_types HO257.out BK284.out (by decide)) (fun _ hk => hk.2) (.slice Ao35 t276.length co35)) (fun _ hk => hk.2) (.slice Ao40 t279.length co40)) (fun _ hk => hk.2) (.int .i64 t282)) (fun _ h_ => h_.1))) hb); have n2_ := Aside0.mk (Kd.R_below (by (with_reducible repeat (first | apply Kd.R_alloc | apply Kd.R_drewN | apply Kd.R_drew)); exact (Kd.R_mono (Kd.R_far (p := ⟨gb284, 2, none⟩) (Kd.R_far (p := ⟨gb284, 1, none⟩) (Kd.R_far (p := ⟨gb284, 0, none⟩) (Kd.R_types HO261.out BK284.out (by decide)) (fun _ hk => hk.2) (.slice Ao35 t276.length co35)) (fun _ hk => hk.2) (.slice Ao40 t279.length co40)) (fun _ hk => hk.2) (.int .i64 t282)) (fun _ h_ => h_.1))) hb); have n3_ := Aside0.mk (Kd.R_below (by (with_reducible repeat (first | apply Kd.R_alloc | apply Kd.R_drewN | apply Kd.R_drew)); exact (Kd.R_mono (Kd.R_far (p := ⟨gb284, 2, none⟩) (Kd.R_far (p := ⟨gb284, 1, none⟩) (Kd.R_far (p := ⟨gb284, 0, none⟩) (Kd.R_types HO264.out BK284.out (by decide)) (fun _ hk => hk.2) (.slice Ao35 t276.length co35)) (fun _ hk => hk.2) (.slice Ao40 t279.length co40)) (fun _ hk => hk.2) (.int .i64 t282)) (fun _ h_ => h_.1))) hb); have n4_ := Aside0.mk (Kd.R_below (by (with_reducible repeat (first | apply Kd.R_alloc | apply Kd.R_drewN | apply Kd.R_drew)); exact (Kd.R_mono (Kd.R_far (p := ⟨gb284, 2, none⟩) (Kd.R_far (p := ⟨gb284, 1, none⟩) (Kd.R_far (p := ⟨gb284, 0, none⟩) (Kd.R_types HO270.out BK284.out (by decide)) (fun _ hk => hk.2) (.slice Ao35 t276.length co35)) (fun _ hk => hk.2) (.slice Ao40 t279.length co40)) (fun _ hk => hk.2) (.int .i64 t282)) (fun _ h_ => h_.1))) hb); have n5_ := Aside0.mk (Kd.R_below (by (with_reducible repeat (first | apply Kd.R_alloc | apply Kd.R_drewN | apply Kd.R_drew)); exact (Kd.R_mono (Kd.R_far (p := ⟨gb284, 2, none⟩) (Kd.R_far (p := ⟨gb284, 1, none⟩) (Kd.R_far (p := ⟨gb284, 0, none⟩) (Kd.R_types HO273.out BK284.out (by decide)) (fun _ hk => hk.2) (.slice Ao35 t276.length co35)) (fun _ hk => hk.2) (.slice Ao40 t279.length co40)) (fun _ hk => hk.2) (.int .i64 t282)) (fun _ h_ => h_.1))) hb); have n6_ := Aside0.mk (Kd.R_below (by (with_reducible repeat (first | apply Kd.R_alloc | apply Kd.R_drewN | apply Kd.R_drew)); exact (Kd.R_mono (Kd.R_far (p := ⟨gb284, 2, none⟩) (Kd.R_far (p := ⟨gb284, 1, none⟩) (Kd.R_far (p := ⟨gb284, 0, none⟩) (Kd.R_types HO278.out BK284.out (by decide)) (fun _ hk => hk.2) (.slice Ao35 t276.length co35)) (fun _ hk => hk.2) (.slice Ao40 t279.length co40)) (fun _ hk => hk.2) (.int .i64 t282)) (fun _ h_ => h_.1))) hb); have n7_ := Aside0.mk (Kd.R_below (by (with_reducible repeat (first | apply Kd.R_alloc | apply Kd.R_drewN | apply Kd.R_drew)); exact (Kd.R_mono (Kd.R_far (p := ⟨gb284, 2, none⟩) (Kd.R_far (p := ⟨gb284, 1, none⟩) (Kd.R_far (p := ⟨gb284, 0, none⟩) (Kd.R_types HO281.out BK284.out (by decide)) (fun _ hk => hk.2) (.slice Ao35 t276.length co35)) (fun _ hk => hk.2) (.slice Ao40 t279.length co40)) (fun _ hk => hk.2) (.int .i64 t282)) (fun _ h_ => h_.1))) hb); have n8_ := Aside0.mk (blk_below (g := gb250) (o := .cells #[.slice A0_0 l0_0.length c0_0, .slice A0_1 l0_1.length c0_1, .int .i64 a0_2] 24 (0, 0)) (by (with_reducible repeat (first | refine blk_drewN ?_ _ | refine blk_drew ?_ | refine blk_alloc ?_ _)); refine blk_far ?_ NB250_284.out _; (with_reducible repeat (first | refine blk_drewN ?_ _ | refine blk_drew ?_ | refine blk_alloc ?_ _)); refine blk_far ?_ NB250_284.out _; (with_reducible repeat (first | refine blk_drewN ?_ _ | refine blk_drew ?_ | refine blk_alloc ?_ _)); refine blk_far ?_ NB250_284.out _; (with_reducible repeat (first | refine blk_drewN ?_ _ | refine blk_drew ?_ | refine blk_alloc ?_ _)); exact BK250.out) hb); have n9_ := Aside0.mk (blk_below (g := gb267) (o := .cells #[.slice Ao21 t259.length co21, .slice Ao24 t262.length co24, .int .i64 t265] 27 (0, 0)) (by (with_reducible repeat (first | refine blk_drewN ?_ _ | refine blk_drew ?_ | refine blk_alloc ?_ _)); refine blk_far ?_ NB267_284.out _; (with_reducible repeat (first | refine blk_drewN ?_ _ | refine blk_drew ?_ | refine blk_alloc ?_ _)); refine blk_far ?_ NB267_284.out _; (with_reducible repeat (first | refine blk_drewN ?_ _ | refine blk_drew ?_ | refine blk_alloc ?_ _)); refine blk_far ?_ NB267_284.out _; (with_reducible repeat (first | refine blk_drewN ?_ _ | refine blk_drew ?_ | refine blk_alloc ?_ _)); exact BK267.out) hb); have n10_ := Aside0.mk (blk_below (g := gb275) (o := .cells #[.slice Ao28 t268.length co28, .slice Ao32 t271.length co32, .int .i64 t274] 27 (0, 0)) (by (with_reducible repeat (first | refine blk_drewN ?_ _ | refine blk_drew ?_ | refine blk_alloc ?_ _)); refine blk_far ?_ NB275_284.out _; (with_reducible repeat (first | refine blk_drewN ?_ _ | refine blk_drew ?_ | refine blk_alloc ?_ _)); refine blk_far ?_ NB275_284.out _; (with_reducible repeat (first | refine blk_drewN ?_ _ | refine blk_drew ?_ | refine blk_alloc ?_ _)); refine blk_far ?_ NB275_284.out _; (with_reducible repeat (first | refine blk_drewN ?_ _ | refine blk_drew ?_ | refine blk_alloc ?_ _)); exact BK275.out) hb); have n11_ := Aside0.mk (blk_below (g := gb284) (o := .cells #[.slice Ao35 t276.length co35, .slice Ao40 t279.length co40, .int .i64 t282] 27 (0, 0)) (by (with_reducible repeat (first | refine blk_drewN ?_ _ | refine blk_drew ?_ | refine blk_alloc ?_ _)); refine blk_put (cs := #[.slice Ao35 t276.length co35, .slice Ao40 t279.length co40, .int .i64 0]) ?_ 2 _ rfl; (with_reducible repeat (first | refine blk_drewN ?_ _ | refine blk_drew ?_ | refine blk_alloc ?_ _)); refine blk_put (cs := #[.slice Ao35 t276.length co35, .slice none 0 0, .int .i64 0]) ?_ 1 _ rfl; (with_reducible repeat (first | refine blk_drewN ?_ _ | refine blk_drew ?_ | refine blk_alloc ?_ _)); refine blk_put (cs := #[.slice none 0 0, .slice none 0 0, .int .i64 0]) ?_ 0 _ rfl; (with_reducible repeat (first | refine blk_drewN ?_ _ | refine blk_drew ?_ | refine blk_alloc ?_ _)); exact BK284.out) hb); have n12_ := Aside0.mk (below_step (by repeat (first | (with_reducible first | exact HB.out | apply below_alloc | apply pw_below_drewN | apply below_drew1 | refine below_set ?_ GE250.out | refine below_set ?_ GE267.out | refine below_set ?_ GE275.out | refine below_set ?_ GE284.out) | exact HB.out)) hb); clear HO254; clear HO257; clear HO261; clear HO264; clear HO270; clear HO273; clear HO278; clear HO281; clear BK250; clear BK267; clear BK275; clear BK284; clear HB; have HO254 := n0_; have HO257 := n1_; have HO261 := n2_; have HO264 := n3_; have HO270 := n4_; have HO273 := n5_; have HO278 := n6_; have HO281 := n7_; have BK250 := n8_; have BK267 := n9_; have BK275 := n10_; have BK284 := n11_; have HB := n12_; clear n0_ n1_ n2_ n3_ n4_ n5_ n6_ n7_ n8_ n9_ n10_ n11_ n12_; (try clear hb); (try clear hb2); (try clear hk); (try clear hi)))
        go_meet
        case rel => exact ⟨_, ((t283 != t266)), (by first | rfl | (simp; done) | (simp [*]; done)), H', ⟨by first | omega | exact Nat.le_refl _⟩, ⟨by (with_reducible repeat (first | apply Kd.R_alloc | apply Kd.R_drewN | apply Kd.R_drew)); exact Kd.R_mono HO261.out (fun _ hk => ⟨hk.1.1.1.1.1.1, ⟨hk.1.1.1.2, ⟨hk.1.1.2, ⟨hk.1.2, hk.2⟩⟩⟩⟩)⟩, ⟨by (with_reducible repeat (first | apply Kd.R_alloc | apply Kd.R_drewN | apply Kd.R_drew)); exact Kd.R_mono HO264.out (fun _ hk => ⟨hk.1.1.1.1.1.1, ⟨hk.1.1.1.2, ⟨hk.1.1.2, ⟨hk.1.2, hk.2⟩⟩⟩⟩)⟩, ⟨by (with_reducible repeat (first | apply Kd.R_alloc | apply Kd.R_drewN | apply Kd.R_drew)); exact Kd.R_mono HO270.out (fun _ hk => ⟨hk.1.1.1.2, ⟨hk.1.1.2, ⟨hk.1.1.1.1.1.1, ⟨hk.1.2, hk.2⟩⟩⟩⟩)⟩, ⟨by (with_reducible repeat (first | apply Kd.R_alloc | apply Kd.R_drewN | apply Kd.R_drew)); exact Kd.R_mono HO273.out (fun _ hk => ⟨hk.1.1.1.2, ⟨hk.1.1.2, ⟨hk.1.1.1.1.1.1, ⟨hk.1.2, hk.2⟩⟩⟩⟩)⟩, ⟨by (with_reducible repeat (first | apply Kd.R_alloc | apply Kd.R_drewN | apply Kd.R_drew)); exact Kd.R_mono HO278.out (fun _ hk => ⟨hk.1.1.1.2, ⟨hk.1.1.2, ⟨hk.1.2, ⟨hk.2, hk.1.1.1.1.1.1⟩⟩⟩⟩)⟩, ⟨by (with_reducible repeat (first | apply Kd.R_alloc | apply Kd.R_drewN | apply Kd.R_drew)); exact Kd.R_mono HO281.out (fun _ hk => ⟨hk.1.1.1.2, ⟨hk.1.1.2, ⟨hk.1.2, ⟨hk.2, hk.1.1.1.1.1.1⟩⟩⟩⟩)⟩, ⟨by (with_reducible repeat (first | refine blk_drewN ?_ _ | refine blk_drew ?_ | refine blk_alloc ?_ _)); exact BK250.out⟩, ⟨by (with_reducible repeat (first | refine blk_drewN ?_ _ | refine blk_drew ?_ | refine blk_alloc ?_ _)); exact BK267.out⟩, ⟨by (with_reducible repeat (first | refine blk_drewN ?_ _ | refine blk_drew ?_ | refine blk_alloc ?_ _)); exact BK275.out⟩, ⟨by (with_reducible repeat (first | refine blk_drewN ?_ _ | refine blk_drew ?_ | refine blk_alloc ?_ _)); exact BK284.out⟩, ⟨by repeat (first | (with_reducible first | exact HB.out | apply below_alloc | apply pw_below_drewN | apply below_drew1 | refine below_set ?_ GE250.out | refine below_set ?_ GE267.out | refine below_set ?_ GE275.out | refine below_set ?_ GE284.out) | exact HB.out)⟩⟩
      · replace c42 := Bool.eq_false_iff.mpr c42
        subst c42
        have H1 : (laws_FnExactMirrorState.j0 k t266 t283 true l0_0 l0_1 a0_2 t259 t262 t265 t268 t271 t274 t276 t279 t282) = some r := by rw [if_neg (show ¬ (false = true) by decide)] at H; exact H
        rw [hr_] at H1; exact absurd H1 (laws_FnExactMirrorState.j0_no _ _ _ _ _ _ _ _ _ _ _ _ _ _ _)
    case rest =>
      clear HC11
      try clear c1
      try clear c2
      try clear p2
      try clear c3
      try clear c3b0
      try clear c4
      try clear c5
      try clear c10
      try clear c12
      try clear c14
      try clear c17
      try clear c18
      try clear c22
      try clear c29
      try clear c30
      try clear c36
      try clear c37
      try clear c38
      try clear c42
      try clear c43
      try clear c44
      try clear c45
      try clear c47
      try clear c48
      try clear c51
      try clear c52
      try clear c53
      try clear c55
      try clear c56
      try clear hcz13_0
      try clear hcz13_1
      try clear hcz13_2
      try clear hcz15_0
      try clear hcz15_1
      try clear hcz15_2
      try clear hcz23_0
      try clear hcz23_1
      try clear hcz23_2
      try clear hcz25_0
      try clear hcz25_1
      try clear hcz25_2
      try clear hcz31_0
      try clear hcz31_1
      try clear hcz31_2
      try clear hcz39_0
      try clear hcz39_1
      try clear hcz39_2
      try clear hcz46_0
      try clear hcz46_1
      try clear hcz46_2
      try clear hcz49_0
      try clear hcz49_1
      try clear hcz49_2
      try clear hcz54_0
      try clear hcz54_1
      try clear hcz54_2
      try clear hcz57_0
      try clear hcz57_1
      try clear hcz57_2
      try clear hcz5_0
      try clear hcz5_1
      try clear hcz5_2
      try clear hfz13_0
      try clear hfz13_1
      try clear hfz13_2
      try clear hfz15_0
      try clear hfz15_1
      try clear hfz15_2
      try clear hfz23_0
      try clear hfz23_1
      try clear hfz23_2
      try clear hfz25_0
      try clear hfz25_1
      try clear hfz25_2
      try clear hfz31_0
      try clear hfz31_1
      try clear hfz31_2
      try clear hfz39_0
      try clear hfz39_1
      try clear hfz39_2
      try clear hfz46_0
      try clear hfz46_1
      try clear hfz46_2
      try clear hfz49_0
      try clear hfz49_1
      try clear hfz49_2
      try clear hfz54_0
      try clear hfz54_1
      try clear hfz54_2
      try clear hfz57_0
      try clear hfz57_1
      try clear hfz57_2
      try clear hfz5_0
      try clear hfz5_1
      try clear hfz5_2
      obtain ⟨kq, x40_10, rfl, HA, HJ10, HO_268000, HO_268001, HO_276000, HO_276001, HO_285000, HO_285001, BK250, BK267, BK275, BK284, HB⟩ := hcut
      cases kq with
      | zero => exact absurd HA.out (by simp [laws_FnExactMirrorState.j0])
      | succ kj10 =>
        have H := HA.out
        clear HA
        simp only [laws_FnExactMirrorState.j0] at H
        by_cases c59 : x40_10 = true
        · subst c59
          have H1 : (some false) = some r := by rw [if_pos rfl] at H; exact H
          rw [hr_] at H1; exact absurd H1 (by decide)
        · replace c59 := Bool.eq_false_iff.mpr c59
          subst c59
          have H1 : ((laws_toState.f kj10 l0_0 l0_1 a0_2).bind fun bt286 => ((laws_eqState.f kj10 t268 t271 t274 bt286.1 bt286.2.1 bt286.2.2).bind fun t293 => (if t293 = true then ((laws_markState.f kj10 t268 t271 t274 1).bind fun bt294 => (if bt294.1 < 0 then (laws_FnExactMirrorState.j1 kj10 t266 true l0_0 l0_1 a0_2 t259 t262 t265 t276 t279 t282) else ((laws_eqState.f kj10 t276 t279 t282 t259 t262 t265).bind fun t297 => (if t297 = true then (laws_FnExactMirrorState.j1 kj10 t266 (t283 != t266) l0_0 l0_1 a0_2 t259 t262 t265 t276 t279 t282) else (laws_FnExactMirrorState.j1 kj10 t266 true l0_0 l0_1 a0_2 t259 t262 t265 t276 t279 t282))))) else (some false)))) = some r := by rw [if_neg (show ¬ (false = true) by decide)] at H; exact H
          clear H
          have H := H1
          clear H1
          replace H := Option.bind_eq_some_iff.mp H
          obtain ⟨⟨t286, t289, t292⟩, A600, H⟩ := H
          replace H : ((laws_eqState.f kj10 t268 t271 t274 t286 t289 t292).bind fun t293 => (if t293 = true then ((laws_markState.f kj10 t268 t271 t274 1).bind fun bt294 => (if bt294.1 < 0 then (laws_FnExactMirrorState.j1 kj10 t266 true l0_0 l0_1 a0_2 t259 t262 t265 t276 t279 t282) else ((laws_eqState.f kj10 t276 t279 t282 t259 t262 t265).bind fun t297 => (if t297 = true then (laws_FnExactMirrorState.j1 kj10 t266 (t283 != t266) l0_0 l0_1 a0_2 t259 t262 t265 t276 t279 t282) else (laws_FnExactMirrorState.j1 kj10 t266 true l0_0 l0_1 a0_2 t259 t262 t265 t276 t279 t282))))) else (some false))) = some r := H
          have A60 := Aside0.mk A600
          clear A600
          replace H := Option.bind_eq_some_iff.mp H
          obtain ⟨t293, A610, H⟩ := H
          replace H : (if t293 = true then ((laws_markState.f kj10 t268 t271 t274 1).bind fun bt294 => (if bt294.1 < 0 then (laws_FnExactMirrorState.j1 kj10 t266 true l0_0 l0_1 a0_2 t259 t262 t265 t276 t279 t282) else ((laws_eqState.f kj10 t276 t279 t282 t259 t262 t265).bind fun t297 => (if t297 = true then (laws_FnExactMirrorState.j1 kj10 t266 (t283 != t266) l0_0 l0_1 a0_2 t259 t262 t265 t276 t279 t282) else (laws_FnExactMirrorState.j1 kj10 t266 true l0_0 l0_1 a0_2 t259 t262 t265 t276 t279 t282))))) else (some false)) = some r := H
          have A61 := Aside0.mk A610
          clear A610
          by_cases c62 : t293 = true
          · subst c62
            have H1 : ((laws_markState.f kj10 t268 t271 t274 1).bind fun bt294 => (if bt294.1 < 0 then (laws_FnExactMirrorState.j1 kj10 t266 true l0_0 l0_1 a0_2 t259 t262 t265 t276 t279 t282) else ((laws_eqState.f kj10 t276 t279 t282 t259 t262 t265).bind fun t297 => (if t297 = true then (laws_FnExactMirrorState.j1 kj10 t266 (t283 != t266) l0_0 l0_1 a0_2 t259 t262 t265 t276 t279 t282) else (laws_FnExactMirrorState.j1 kj10 t266 true l0_0 l0_1 a0_2 t259 t262 t265 t276 t279 t282))))) = some r := by rw [if_pos rfl] at H; exact H
            clear H
            have H := H1
            clear H1
            replace H := Option.bind_eq_some_iff.mp H
            obtain ⟨⟨t294, t295, t296⟩, A630, H⟩ := H
            replace H : (if t294 < 0 then (laws_FnExactMirrorState.j1 kj10 t266 true l0_0 l0_1 a0_2 t259 t262 t265 t276 t279 t282) else ((laws_eqState.f kj10 t276 t279 t282 t259 t262 t265).bind fun t297 => (if t297 = true then (laws_FnExactMirrorState.j1 kj10 t266 (t283 != t266) l0_0 l0_1 a0_2 t259 t262 t265 t276 t279 t282) else (laws_FnExactMirrorState.j1 kj10 t266 true l0_0 l0_1 a0_2 t259 t262 t265 t276 t279 t282)))) = some r := H
            have A63 := Aside0.mk A630
            clear A630
            have HC64 := Aside0.mk H
            clear H
            try go_wp2
            have n0_ := Aside0.mk (Kd.R_drew HO_268000.out)
            have n1_ := Aside0.mk (Kd.R_drew HO_268001.out)
            have n2_ := Aside0.mk (Kd.R_drew HO_276000.out)
            have n3_ := Aside0.mk (Kd.R_drew HO_276001.out)
            have n4_ := Aside0.mk (Kd.R_drew HO_285000.out)
            have n5_ := Aside0.mk (Kd.R_drew HO_285001.out)
            have n6_ := Aside0.mk (blk_drew BK250.out)
            have n7_ := Aside0.mk (blk_drew BK267.out)
            have n8_ := Aside0.mk (blk_drew BK275.out)
            have n9_ := Aside0.mk (blk_drew BK284.out)
            have n10_ := Aside0.mk (below_drew1 HB.out)
            clear HO_268000
            clear HO_268001
            clear HO_276000
            clear HO_276001
            clear HO_285000
            clear HO_285001
            clear BK250
            clear BK267
            clear BK275
            clear BK284
            clear HB
            have HO_268000 := n0_
            have HO_268001 := n1_
            have HO_276000 := n2_
            have HO_276001 := n3_
            have HO_285000 := n4_
            have HO_285001 := n5_
            have BK250 := n6_
            have BK267 := n7_
            have BK275 := n8_
            have BK284 := n9_
            have HB := n10_
            clear n0_ n1_ n2_ n3_ n4_ n5_ n6_ n7_ n8_ n9_ n10_
            refine start_ (n := 5) (S := fun w' => w'.cell? ⟨gb275, 0, none⟩ = some (.slice Ao28 t268.length co28) ∧ w'.cell? ⟨gb275, 1, none⟩ = some (.slice Ao32 t271.length co32) ∧ w'.cell? ⟨gb275, 2, none⟩ = some (.int .i64 t274) ∧ w'.cell? ⟨gb250, 0, none⟩ = some (.slice A0_0 l0_0.length c0_0) ∧ w'.cell? ⟨gb250, 1, none⟩ = some (.slice A0_1 l0_1.length c0_1) ∧ w'.cell? ⟨gb250, 2, none⟩ = some (.int .i64 a0_2)) (ds := []) #[false, false, false, false, false] (by kernel_rfl) rfl rfl ⟨(blk_cell BK275.out 0).trans rfl, (blk_cell BK275.out 1).trans rfl, (blk_cell BK275.out 2).trans rfl, (blk_cell BK250.out 0).trans rfl, (blk_cell BK250.out 1).trans rfl, (blk_cell BK250.out 2).trans rfl⟩ (fun hHeld => ?_)
            generalize wc.drew = w65 at HO_268000 HO_268001 HO_276000 HO_276001 HO_285000 HO_285001 BK250 BK267 BK275 BK284 HB hHeld ⊢
            refine take_ (i := 0) (N := some 41) (v := ?_) (a' := ?_) #[true, false, false, false, false] rfl rfl (by kernel_rfl) (fun _ _ _ h => h) (Or.inl ⟨by rfl, ?_⟩) hHeld ?_ ?_
            rotate_left
            · rintro w' ⟨s0, s1, s2, s3, s4, s5⟩
              go_simp
              with_reducible rfl
            rotate_left
            · simp only [Act.put, List.setIfInBounds_toArray, List.set_cons_zero, List.set_cons_succ, i64_w, i32_w]
              rfl
            refine take_ (i := 1) (N := some 42) (v := ?_) (a' := ?_) #[true, true, false, false, false] rfl rfl (by kernel_rfl) (fun _ _ _ h => h) (Or.inl ⟨by rfl, ?_⟩) hHeld ?_ ?_
            rotate_left
            · rintro w' ⟨s0, s1, s2, s3, s4, s5⟩
              go_simp
              with_reducible rfl
            rotate_left
            · simp only [Act.put, List.setIfInBounds_toArray, List.set_cons_zero, List.set_cons_succ, i64_w, i32_w]
              rfl
            refine one_ (i := 2) (N := some 43) #[true, true, true, false, false] rfl rfl (by kernel_rfl) (by decide) (fun K hK => ?_)
            refine goes_ Try.func12 (by kernel_rfl) rfl #[.agg #[.slice A0_0 l0_0.length c0_0, .slice A0_1 l0_1.length c0_1, .int .i64 a0_2]] (by rfl) rfl rfl (by (try simp only [List.map_toArray, List.map_cons, List.map_nil]); first | done | rfl | (simp only [List.length_drop, List.length_take]; rfl)) ?_
            with_reducible refine (laws_toState.calls kj10 _ _ l0_0 _ _ l0_1 a0_2 t286 t289 t292 _ ?side1 ?side2 ?side3 ?side4 A60.out).mono ?_
            (case side1 => repeat (first | exact (Kd.C_below HR0_0.out HB.out) | (with_reducible refine Kd.C_alloc ?_ _) | (with_reducible refine Kd.C_drewN ?_ _) | (with_reducible refine Kd.C_drew ?_)))
            (case side2 => exact HC0_0.out)
            (case side3 => repeat (first | exact (Kd.C_below HR0_1.out HB.out) | (with_reducible refine Kd.C_alloc ?_ _) | (with_reducible refine Kd.C_drewN ?_ _) | (with_reducible refine Kd.C_drew ?_)))
            (case side4 => exact HC0_1.out)
            rintro e w66 ⟨v287, v290, rfl, ho0, ho1, hb⟩
            refine ⟨_, rfl, ?_⟩
            have n0_ := Aside0.mk (Kd.R_mono (Kd.R_told (Kd.R_told (Kd.R_old (by (with_reducible repeat (first | apply Kd.R_alloc | apply Kd.R_drewN | apply Kd.R_drew)); exact HO_268000.out) hb) (Kd.R_base ho0)) (Kd.R_base ho1)) (fun _ h_ => h_.1))
            have n1_ := Aside0.mk (Kd.R_mono (Kd.R_told (Kd.R_told (Kd.R_old (by (with_reducible repeat (first | apply Kd.R_alloc | apply Kd.R_drewN | apply Kd.R_drew)); exact HO_268001.out) hb) (Kd.R_base ho0)) (Kd.R_base ho1)) (fun _ h_ => h_.1))
            have n2_ := Aside0.mk (Kd.R_mono (Kd.R_told (Kd.R_told (Kd.R_old (by (with_reducible repeat (first | apply Kd.R_alloc | apply Kd.R_drewN | apply Kd.R_drew)); exact HO_276000.out) hb) (Kd.R_base ho0)) (Kd.R_base ho1)) (fun _ h_ => h_.1))
            have n3_ := Aside0.mk (Kd.R_mono (Kd.R_told (Kd.R_told (Kd.R_old (by (with_reducible repeat (first | apply Kd.R_alloc | apply Kd.R_drewN | apply Kd.R_drew)); exact HO_276001.out) hb) (Kd.R_base ho0)) (Kd.R_base ho1)) (fun _ h_ => h_.1))
            have n4_ := Aside0.mk (Kd.R_mono (Kd.R_told (Kd.R_told (Kd.R_old (by (with_reducible repeat (first | apply Kd.R_alloc | apply Kd.R_drewN | apply Kd.R_drew)); exact HO_285000.out) hb) (Kd.R_base ho0)) (Kd.R_base ho1)) (fun _ h_ => h_.1))
            have n5_ := Aside0.mk (Kd.R_mono (Kd.R_told (Kd.R_told (Kd.R_old (by (with_reducible repeat (first | apply Kd.R_alloc | apply Kd.R_drewN | apply Kd.R_drew)); exact HO_285001.out) hb) (Kd.R_base ho0)) (Kd.R_base ho1)) (fun _ h_ => h_.1))
            have n6_ := Aside0.mk (Kd.R_lower (Kd.R_new' (Kd.R_new' (Kd.R_new' (Kd.R_new' (Kd.R_new' (Kd.R_new' ho0 (Kd.R_lt (by (with_reducible repeat (first | apply Kd.R_alloc | apply Kd.R_drewN | apply Kd.R_drew)); exact HO_268000.out))) (Kd.R_lt (by (with_reducible repeat (first | apply Kd.R_alloc | apply Kd.R_drewN | apply Kd.R_drew)); exact HO_268001.out))) (Kd.R_lt (by (with_reducible repeat (first | apply Kd.R_alloc | apply Kd.R_drewN | apply Kd.R_drew)); exact HO_276000.out))) (Kd.R_lt (by (with_reducible repeat (first | apply Kd.R_alloc | apply Kd.R_drewN | apply Kd.R_drew)); exact HO_276001.out))) (Kd.R_lt (by (with_reducible repeat (first | apply Kd.R_alloc | apply Kd.R_drewN | apply Kd.R_drew)); exact HO_285000.out))) (Kd.R_lt (by (with_reducible repeat (first | apply Kd.R_alloc | apply Kd.R_drewN | apply Kd.R_drew)); exact HO_285001.out))) (below_size (by repeat (first | (with_reducible first | exact HB.out | apply below_alloc | apply pw_below_drewN | apply below_drew1 | refine below_set ?_ GE250.out | refine below_set ?_ GE267.out | refine below_set ?_ GE275.out | refine below_set ?_ GE284.out) | exact HB.out))))
            have n7_ := Aside0.mk (Kd.R_lower (Kd.R_new' (Kd.R_new' (Kd.R_new' (Kd.R_new' (Kd.R_new' (Kd.R_new' ho1 (Kd.R_lt (by (with_reducible repeat (first | apply Kd.R_alloc | apply Kd.R_drewN | apply Kd.R_drew)); exact HO_268000.out))) (Kd.R_lt (by (with_reducible repeat (first | apply Kd.R_alloc | apply Kd.R_drewN | apply Kd.R_drew)); exact HO_268001.out))) (Kd.R_lt (by (with_reducible repeat (first | apply Kd.R_alloc | apply Kd.R_drewN | apply Kd.R_drew)); exact HO_276000.out))) (Kd.R_lt (by (with_reducible repeat (first | apply Kd.R_alloc | apply Kd.R_drewN | apply Kd.R_drew)); exact HO_276001.out))) (Kd.R_lt (by (with_reducible repeat (first | apply Kd.R_alloc | apply Kd.R_drewN | apply Kd.R_drew)); exact HO_285000.out))) (Kd.R_lt (by (with_reducible repeat (first | apply Kd.R_alloc | apply Kd.R_drewN | apply Kd.R_drew)); exact HO_285001.out))) (below_size (by repeat (first | (with_reducible first | exact HB.out | apply below_alloc | apply pw_below_drewN | apply below_drew1 | refine below_set ?_ GE250.out | refine below_set ?_ GE267.out | refine below_set ?_ GE275.out | refine below_set ?_ GE284.out) | exact HB.out))))
            have n8_ := Aside0.mk (blk_below (g := gb250) (o := .cells #[.slice A0_0 l0_0.length c0_0, .slice A0_1 l0_1.length c0_1, .int .i64 a0_2] 24 (0, 0)) (by (with_reducible repeat (first | refine blk_drewN ?_ _ | refine blk_drew ?_ | refine blk_alloc ?_ _)); exact BK250.out) hb)
            have n9_ := Aside0.mk (blk_below (g := gb267) (o := .cells #[.slice Ao21 t259.length co21, .slice Ao24 t262.length co24, .int .i64 t265] 27 (0, 0)) (by (with_reducible repeat (first | refine blk_drewN ?_ _ | refine blk_drew ?_ | refine blk_alloc ?_ _)); exact BK267.out) hb)
            have n10_ := Aside0.mk (blk_below (g := gb275) (o := .cells #[.slice Ao28 t268.length co28, .slice Ao32 t271.length co32, .int .i64 t274] 27 (0, 0)) (by (with_reducible repeat (first | refine blk_drewN ?_ _ | refine blk_drew ?_ | refine blk_alloc ?_ _)); exact BK275.out) hb)
            have n11_ := Aside0.mk (blk_below (g := gb284) (o := .cells #[.slice Ao35 t276.length co35, .slice Ao40 t279.length co40, .int .i64 t282] 27 (0, 0)) (by (with_reducible repeat (first | refine blk_drewN ?_ _ | refine blk_drew ?_ | refine blk_alloc ?_ _)); exact BK284.out) hb)
            have n12_ := Aside0.mk (below_step (by repeat (first | (with_reducible first | exact HB.out | apply below_alloc | apply pw_below_drewN | apply below_drew1 | refine below_set ?_ GE250.out | refine below_set ?_ GE267.out | refine below_set ?_ GE275.out | refine below_set ?_ GE284.out) | exact HB.out)) hb)
            clear HO_268000
            clear HO_268001
            clear HO_276000
            clear HO_276001
            clear HO_285000
            clear HO_285001
            clear BK250
            clear BK267
            clear BK275
            clear BK284
            clear HB
            have HO_268000 := n0_
            have HO_268001 := n1_
            have HO_276000 := n2_
            have HO_276001 := n3_
            have HO_285000 := n4_
            have HO_285001 := n5_
            have HO288 := n6_
            have HO291 := n7_
            have BK250 := n8_
            have BK267 := n9_
            have BK275 := n10_
            have BK284 := n11_
            have HB := n12_
            clear n0_ n1_ n2_ n3_ n4_ n5_ n6_ n7_ n8_ n9_ n10_ n11_ n12_
            (try clear hb)
            (try clear hb2)
            (try clear hk)
            (try clear hi)
            (try clear ho0)
            (try clear ho1)
            obtain ⟨Ao67, co67, eo67⟩ := Kd.R_slice HO288.out
            (first | subst eo67 | (injection eo67 with f1_ f2_ f3_; have f4_ := f1_.symm; have f5_ := f3_.symm; clear f1_ f2_ f3_; subst f4_; subst f5_))
            obtain ⟨Ao68, co68, eo68⟩ := Kd.R_slice HO291.out
            (first | subst eo68 | (injection eo68 with f1_ f2_ f3_; have f4_ := f1_.symm; have f5_ := f3_.symm; clear f1_ f2_ f3_; subst f4_; subst f5_))
            refine hK.out _ _ ⟨(blk_cell BK275.out 0).trans rfl, (blk_cell BK275.out 1).trans rfl, (blk_cell BK275.out 2).trans rfl, (blk_cell BK250.out 0).trans rfl, (blk_cell BK250.out 1).trans rfl, (blk_cell BK250.out 2).trans rfl⟩ (fun hHeld => ?_)
            clear hK K
            refine norm_ (a' := ?_) ?_ ?_
            rotate_left
            · show Act.put _ (some 43) _ = _
              simp only [Act.put, List.setIfInBounds_toArray, List.set_cons_zero, List.set_cons_succ, i64_w, i32_w]
              rfl
            refine one_ (i := 3) (N := some 44) #[true, true, true, true, false] rfl rfl (by kernel_rfl) (by decide) (fun K hK => ?_)
            refine goes_ Try.func14 (by kernel_rfl) rfl #[.agg #[.slice Ao28 t268.length co28, .slice Ao32 t271.length co32, .int .i64 t274], .agg #[.slice Ao67 t286.length co67, .slice Ao68 t289.length co68, .int .i64 t292]] (by rfl) rfl rfl (by (try simp only [List.map_toArray, List.map_cons, List.map_nil]); first | done | rfl | (simp only [List.length_drop, List.length_take]; rfl)) ?_
            with_reducible refine (laws_eqState.calls kj10 _ _ t268 _ _ t271 t274 _ _ t286 _ _ t289 t292 true _ ?side1 ?side2 ?side3 ?side4 ?side5 ?side6 ?side7 ?side8 A61.out).mono ?_
            (case side1 => repeat (first | exact (Kd.R_reads' HO_276000.out).2.2 | (with_reducible refine Kd.C_alloc ?_ _) | (with_reducible refine Kd.C_drewN ?_ _) | (with_reducible refine Kd.C_drew ?_)))
            (case side2 => exact (Kd.R_reads' HO_276000.out).2.1)
            (case side3 => repeat (first | exact (Kd.R_reads' HO_276001.out).2.2 | (with_reducible refine Kd.C_alloc ?_ _) | (with_reducible refine Kd.C_drewN ?_ _) | (with_reducible refine Kd.C_drew ?_)))
            (case side4 => exact (Kd.R_reads' HO_276001.out).2.1)
            (case side5 => repeat (first | exact (Kd.R_reads' HO288.out).2.2 | (with_reducible refine Kd.C_alloc ?_ _) | (with_reducible refine Kd.C_drewN ?_ _) | (with_reducible refine Kd.C_drew ?_)))
            (case side6 => exact (Kd.R_reads' HO288.out).2.1)
            (case side7 => repeat (first | exact (Kd.R_reads' HO291.out).2.2 | (with_reducible refine Kd.C_alloc ?_ _) | (with_reducible refine Kd.C_drewN ?_ _) | (with_reducible refine Kd.C_drew ?_)))
            (case side8 => exact (Kd.R_reads' HO291.out).2.1)
            rintro e w69 ⟨rfl, hb⟩
            refine ⟨_, rfl, ?_⟩
            have n0_ := Aside0.mk (Kd.R_below (by (with_reducible repeat (first | apply Kd.R_alloc | apply Kd.R_drewN | apply Kd.R_drew)); exact HO_268000.out) hb)
            have n1_ := Aside0.mk (Kd.R_below (by (with_reducible repeat (first | apply Kd.R_alloc | apply Kd.R_drewN | apply Kd.R_drew)); exact HO_268001.out) hb)
            have n2_ := Aside0.mk (Kd.R_below (by (with_reducible repeat (first | apply Kd.R_alloc | apply Kd.R_drewN | apply Kd.R_drew)); exact HO_276000.out) hb)
            have n3_ := Aside0.mk (Kd.R_below (by (with_reducible repeat (first | apply Kd.R_alloc | apply Kd.R_drewN | apply Kd.R_drew)); exact HO_276001.out) hb)
            have n4_ := Aside0.mk (Kd.R_below (by (with_reducible repeat (first | apply Kd.R_alloc | apply Kd.R_drewN | apply Kd.R_drew)); exact HO_285000.out) hb)
            have n5_ := Aside0.mk (Kd.R_below (by (with_reducible repeat (first | apply Kd.R_alloc | apply Kd.R_drewN | apply Kd.R_drew)); exact HO_285001.out) hb)
            have n6_ := Aside0.mk (Kd.R_below (by (with_reducible repeat (first | apply Kd.R_alloc | apply Kd.R_drewN | apply Kd.R_drew)); exact HO288.out) hb)
            have n7_ := Aside0.mk (Kd.R_below (by (with_reducible repeat (first | apply Kd.R_alloc | apply Kd.R_drewN | apply Kd.R_drew)); exact HO291.out) hb)
            have n8_ := Aside0.mk (blk_below (g := gb250) (o := .cells #[.slice A0_0 l0_0.length c0_0, .slice A0_1 l0_1.length c0_1, .int .i64 a0_2] 24 (0, 0)) (by (with_reducible repeat (first | refine blk_drewN ?_ _ | refine blk_drew ?_ | refine blk_alloc ?_ _)); exact BK250.out) hb)
            have n9_ := Aside0.mk (blk_below (g := gb267) (o := .cells #[.slice Ao21 t259.length co21, .slice Ao24 t262.length co24, .int .i64 t265] 27 (0, 0)) (by (with_reducible repeat (first | refine blk_drewN ?_ _ | refine blk_drew ?_ | refine blk_alloc ?_ _)); exact BK267.out) hb)
            have n10_ := Aside0.mk (blk_below (g := gb275) (o := .cells #[.slice Ao28 t268.length co28, .slice Ao32 t271.length co32, .int .i64 t274] 27 (0, 0)) (by (with_reducible repeat (first | refine blk_drewN ?_ _ | refine blk_drew ?_ | refine blk_alloc ?_ _)); exact BK275.out) hb)
            have n11_ := Aside0.mk (blk_below (g := gb284) (o := .cells #[.slice Ao35 t276.length co35, .slice Ao40 t279.length co40, .int .i64 t282] 27 (0, 0)) (by (with_reducible repeat (first | refine blk_drewN ?_ _ | refine blk_drew ?_ | refine blk_alloc ?_ _)); exact BK284.out) hb)
            have n12_ := Aside0.mk (below_step (by repeat (first | (with_reducible first | exact HB.out | apply below_alloc | apply pw_below_drewN | apply below_drew1 | refine below_set ?_ GE250.out | refine below_set ?_ GE267.out | refine below_set ?_ GE275.out | refine below_set ?_ GE284.out) | exact HB.out)) hb)
            clear HO_268000
            clear HO_268001
            clear HO_276000
            clear HO_276001
            clear HO_285000
            clear HO_285001
            clear HO288
            clear HO291
            clear BK250
            clear BK267
            clear BK275
            clear BK284
            clear HB
            have HO_268000 := n0_
            have HO_268001 := n1_
            have HO_276000 := n2_
            have HO_276001 := n3_
            have HO_285000 := n4_
            have HO_285001 := n5_
            have HO288 := n6_
            have HO291 := n7_
            have BK250 := n8_
            have BK267 := n9_
            have BK275 := n10_
            have BK284 := n11_
            have HB := n12_
            clear n0_ n1_ n2_ n3_ n4_ n5_ n6_ n7_ n8_ n9_ n10_ n11_ n12_
            (try clear hb)
            (try clear hb2)
            (try clear hk)
            (try clear hi)
            refine hK.out _ _ ⟨(blk_cell BK275.out 0).trans rfl, (blk_cell BK275.out 1).trans rfl, (blk_cell BK275.out 2).trans rfl, (blk_cell BK250.out 0).trans rfl, (blk_cell BK250.out 1).trans rfl, (blk_cell BK250.out 2).trans rfl⟩ (fun hHeld => ?_)
            clear hK K
            refine norm_ (a' := ?_) ?_ ?_
            rotate_left
            · show Act.put _ (some 44) _ = _
              simp only [Act.put, List.setIfInBounds_toArray, List.set_cons_zero, List.set_cons_succ, i64_w, i32_w]
              rfl
            refine pure_ (i := 4) (N := some 45) (v := ?_) (a' := ?_) #[true, true, true, true, true] rfl rfl (by kernel_rfl) (fun _ _ _ h => h) (Or.inl ⟨by rfl, ?_⟩) ?_ ?_
            rotate_left
            · intro w'
              go_simp
              with_reducible rfl
            rotate_left
            · simp only [Act.put, List.setIfInBounds_toArray, List.set_cons_zero, List.set_cons_succ, i64_w, i32_w]
              rfl
            refine done_ (by kernel_rfl) ?_
            have hnb70 := NB275_250.out
            have hnc70 := NB250_275.out
            have hnb71 := NB275_267.out
            have hnc71 := NB267_275.out
            have hnb72 := NB275_284.out
            have hnc72 := NB284_275.out
            have hcz73_0 : w69.cell? ⟨gb275, 0, none⟩ = some (.slice Ao28 t268.length co28) := (blk_cell BK275.out 0).trans rfl
            have hcz73_1 : w69.cell? ⟨gb275, 1, none⟩ = some (.slice Ao32 t271.length co32) := (blk_cell BK275.out 1).trans rfl
            have hcz73_2 : w69.cell? ⟨gb275, 2, none⟩ = some (.int .i64 t274) := (blk_cell BK275.out 2).trans rfl
            have hfz73_0 := blk_frozen BK275.out 0
            have hfz73_1 := blk_frozen BK275.out 1
            have hfz73_2 := blk_frozen BK275.out 2
            go_upto_region 14 with (first | ((with_reducible refine gate_callee (f := 19) rfl ?_); refine goesL_ (some 48) rfl rfl Try.func19 (by kernel_rfl) rfl #[.agg #[.slice Ao28 t268.length co28, .slice Ao32 t271.length co32, .int .i64 t274], .int .i64 1] rfl (by (try simp only [List.map_toArray, List.map_cons, List.map_nil]); first | done | rfl | (simp only [List.length_drop, List.length_take]; rfl)) ?_; (with_reducible refine (laws_markState.calls kj10 (fun k_ => some k_ = (.slice Ao28 t268.length co28 : Value).ownBlock) (.slice Ao28 t268.length co28) t268 (fun k_ => some k_ = (.slice Ao32 t271.length co32 : Value).ownBlock) (.slice Ao32 t271.length co32) t271 t274 1 t294 t295 t296 w _ ?side1 ?side2 ?side3 ?side4 ?side5 A63.out).mono ?_); (case side1 => repeat (first | (with_reducible first | exact HB.out | apply below_alloc | apply pw_below_drewN | apply below_drew1 | refine below_set ?_ GE250.out | refine below_set ?_ GE267.out | refine below_set ?_ GE275.out | refine below_set ?_ GE284.out) | exact HB.out)); (case side2 => exact Kd.R_tight rfl HO_276000.out); (case side3 => exact fun k_ e_ => (HO_276000.out.1 k_ e_.symm).1.1.2.2.1); (case side4 => exact Kd.R_tight rfl HO_276001.out); (case side5 => exact fun k_ e_ => (HO_276001.out.1 k_ e_.symm).1.1.2.2.1); rintro e w74 ⟨rfl, hy0, hy1, hb, hkp⟩; refine ⟨_, rfl, ?_⟩; have n0_ := Aside0.mk (Kd.R_mono (ok' := fun k_ => some k_ ≠ (.slice Ao24 t262.length co24 : Value).ownBlock ∧ some k_ ≠ (.slice Ao28 t268.length co28 : Value).ownBlock ∧ some k_ ≠ (.slice Ao32 t271.length co32 : Value).ownBlock ∧ some k_ ≠ (.slice Ao35 t276.length co35 : Value).ownBlock ∧ some k_ ≠ (.slice Ao40 t279.length co40 : Value).ownBlock ∧ some k_ ≠ (.slice Ao67 t286.length co67 : Value).ownBlock ∧ some k_ ≠ (.slice Ao68 t289.length co68 : Value).ownBlock) (Kd.R_keptB (HO_268000.out) hkp (fun k_ hk_ hs_ => Or.elim hs_ (fun e_ => (hk_.1.1.2.1) e_) (fun e_ => (hk_.1.1.2.2.1) e_))) (fun k_ hk_ => ⟨hk_.1.1.1.1, hk_.1.1.1.2.1, hk_.1.1.1.2.2.1, hk_.1.1.1.2.2.2.1, hk_.1.1.1.2.2.2.2, hk_.1.1.2, hk_.1.2⟩)); have n1_ := Aside0.mk (Kd.R_mono (ok' := fun k_ => some k_ ≠ (.slice Ao21 t259.length co21 : Value).ownBlock ∧ some k_ ≠ (.slice Ao28 t268.length co28 : Value).ownBlock ∧ some k_ ≠ (.slice Ao32 t271.length co32 : Value).ownBlock ∧ some k_ ≠ (.slice Ao35 t276.length co35 : Value).ownBlock ∧ some k_ ≠ (.slice Ao40 t279.length co40 : Value).ownBlock ∧ some k_ ≠ (.slice Ao67 t286.length co67 : Value).ownBlock ∧ some k_ ≠ (.slice Ao68 t289.length co68 : Value).ownBlock) (Kd.R_keptB (HO_268001.out) hkp (fun k_ hk_ hs_ => Or.elim hs_ (fun e_ => (hk_.1.1.2.1) e_) (fun e_ => (hk_.1.1.2.2.1) e_))) (fun k_ hk_ => ⟨hk_.1.1.1.1, hk_.1.1.1.2.1, hk_.1.1.1.2.2.1, hk_.1.1.1.2.2.2.1, hk_.1.1.1.2.2.2.2, hk_.1.1.2, hk_.1.2⟩)); have n2_ := Aside0.mk (Kd.R_reok rfl hy0 (fun k_ e_ => HO_276000.out.1 k_ e_)); have n3_ := Aside0.mk (Kd.R_reok rfl hy1 (fun k_ e_ => HO_276001.out.1 k_ e_)); have n4_ := Aside0.mk (Kd.R_mono (ok' := fun k_ => some k_ ≠ (.slice Ao21 t259.length co21 : Value).ownBlock ∧ some k_ ≠ (.slice Ao24 t262.length co24 : Value).ownBlock ∧ some k_ ≠ (.slice Ao28 t268.length co28 : Value).ownBlock ∧ some k_ ≠ (.slice Ao32 t271.length co32 : Value).ownBlock ∧ some k_ ≠ (.slice Ao40 t279.length co40 : Value).ownBlock ∧ some k_ ≠ (.slice Ao67 t286.length co67 : Value).ownBlock ∧ some k_ ≠ (.slice Ao68 t289.length co68 : Value).ownBlock) (Kd.R_keptB (HO_285000.out) hkp (fun k_ hk_ hs_ => Or.elim hs_ (fun e_ => (hk_.1.1.2.2.1) e_) (fun e_ => (hk_.1.1.2.2.2.1) e_))) (fun k_ hk_ => ⟨hk_.1.1.1.1, hk_.1.1.1.2.1, hk_.1.1.1.2.2.1, hk_.1.1.1.2.2.2.1, hk_.1.1.1.2.2.2.2, hk_.1.1.2, hk_.1.2⟩)); have n5_ := Aside0.mk (Kd.R_mono (ok' := fun k_ => some k_ ≠ (.slice Ao21 t259.length co21 : Value).ownBlock ∧ some k_ ≠ (.slice Ao24 t262.length co24 : Value).ownBlock ∧ some k_ ≠ (.slice Ao28 t268.length co28 : Value).ownBlock ∧ some k_ ≠ (.slice Ao32 t271.length co32 : Value).ownBlock ∧ some k_ ≠ (.slice Ao35 t276.length co35 : Value).ownBlock ∧ some k_ ≠ (.slice Ao67 t286.length co67 : Value).ownBlock ∧ some k_ ≠ (.slice Ao68 t289.length co68 : Value).ownBlock) (Kd.R_keptB (HO_285001.out) hkp (fun k_ hk_ hs_ => Or.elim hs_ (fun e_ => (hk_.1.1.2.2.1) e_) (fun e_ => (hk_.1.1.2.2.2.1) e_))) (fun k_ hk_ => ⟨hk_.1.1.1.1, hk_.1.1.1.2.1, hk_.1.1.1.2.2.1, hk_.1.1.1.2.2.2.1, hk_.1.1.1.2.2.2.2, hk_.1.1.2, hk_.1.2⟩)); have n6_ := Aside0.mk (blk_kept (by (with_reducible repeat (first | refine blk_drewN ?_ _ | refine blk_drew ?_ | refine blk_alloc ?_ _)); exact BK250.out) hkp (fun hs_ => Or.elim hs_ (fun e_ => (fun e_ => (Kd.R_ne HO_276000.out BK250.out (by decide)) e_) e_) (fun e_ => (fun e_ => (Kd.R_ne HO_276001.out BK250.out (by decide)) e_) e_))); have n7_ := Aside0.mk (blk_kept (by (with_reducible repeat (first | refine blk_drewN ?_ _ | refine blk_drew ?_ | refine blk_alloc ?_ _)); exact BK267.out) hkp (fun hs_ => Or.elim hs_ (fun e_ => (fun e_ => (Kd.R_ne HO_276000.out BK267.out (by decide)) e_) e_) (fun e_ => (fun e_ => (Kd.R_ne HO_276001.out BK267.out (by decide)) e_) e_))); have n8_ := Aside0.mk (blk_kept (by (with_reducible repeat (first | refine blk_drewN ?_ _ | refine blk_drew ?_ | refine blk_alloc ?_ _)); exact BK275.out) hkp (fun hs_ => Or.elim hs_ (fun e_ => (fun e_ => (Kd.R_ne HO_276000.out BK275.out (by decide)) e_) e_) (fun e_ => (fun e_ => (Kd.R_ne HO_276001.out BK275.out (by decide)) e_) e_))); have n9_ := Aside0.mk (blk_kept (by (with_reducible repeat (first | refine blk_drewN ?_ _ | refine blk_drew ?_ | refine blk_alloc ?_ _)); exact BK284.out) hkp (fun hs_ => Or.elim hs_ (fun e_ => (fun e_ => (Kd.R_ne HO_276000.out BK284.out (by decide)) e_) e_) (fun e_ => (fun e_ => (Kd.R_ne HO_276001.out BK284.out (by decide)) e_) e_))); have n10_ := Aside0.mk (Kd.R_mono (ok' := fun k_ => some k_ ≠ (.slice Ao21 t259.length co21 : Value).ownBlock ∧ some k_ ≠ (.slice Ao24 t262.length co24 : Value).ownBlock ∧ some k_ ≠ (.slice Ao28 t268.length co28 : Value).ownBlock ∧ some k_ ≠ (.slice Ao32 t271.length co32 : Value).ownBlock ∧ some k_ ≠ (.slice Ao35 t276.length co35 : Value).ownBlock ∧ some k_ ≠ (.slice Ao40 t279.length co40 : Value).ownBlock ∧ some k_ ≠ (.slice Ao68 t289.length co68 : Value).ownBlock) (Kd.R_keptB (HO288.out) hkp (fun k_ hk_ hs_ => Or.elim hs_ (fun e_ => (hk_.1.1.1.2) e_) (fun e_ => (hk_.1.1.2) e_))) (fun k_ hk_ => ⟨hk_.1.1.1.1.1.1.2, hk_.1.1.1.1.1.2, hk_.1.1.1.1.2, hk_.1.1.1.2, hk_.1.1.2, hk_.1.2, hk_.1.1.1.1.1.1.1⟩)); have n11_ := Aside0.mk (Kd.R_mono (ok' := fun k_ => some k_ ≠ (.slice Ao21 t259.length co21 : Value).ownBlock ∧ some k_ ≠ (.slice Ao24 t262.length co24 : Value).ownBlock ∧ some k_ ≠ (.slice Ao28 t268.length co28 : Value).ownBlock ∧ some k_ ≠ (.slice Ao32 t271.length co32 : Value).ownBlock ∧ some k_ ≠ (.slice Ao35 t276.length co35 : Value).ownBlock ∧ some k_ ≠ (.slice Ao40 t279.length co40 : Value).ownBlock ∧ some k_ ≠ (.slice Ao67 t286.length co67 : Value).ownBlock) (Kd.R_keptB (HO291.out) hkp (fun k_ hk_ hs_ => Or.elim hs_ (fun e_ => (hk_.1.1.1.2) e_) (fun e_ => (hk_.1.1.2) e_))) (fun k_ hk_ => ⟨hk_.1.1.1.1.1.1.2, hk_.1.1.1.1.1.2, hk_.1.1.1.1.2, hk_.1.1.1.2, hk_.1.1.2, hk_.1.2, hk_.1.1.1.1.1.1.1⟩)); have n12_ := Aside0.mk (hb); clear HO_268000; clear HO_268001; clear HO_276000; clear HO_276001; clear HO_285000; clear HO_285001; clear BK250; clear BK267; clear BK275; clear BK284; clear HO288; clear HO291; clear HB; have HO_268000 := n0_; have HO_268001 := n1_; have HO_276000 := n2_; have HO_276001 := n3_; have HO_285000 := n4_; have HO_285001 := n5_; have BK250 := n6_; have BK267 := n7_; have BK275 := n8_; have BK284 := n9_; have HO288 := n10_; have HO291 := n11_; have HB := n12_; clear n0_ n1_ n2_ n3_ n4_ n5_ n6_ n7_ n8_ n9_ n10_ n11_ n12_; (try clear hb); (try clear hkp); (try clear hy0); (try clear hy1)))
            (try simp only [Act.put, List.setIfInBounds_toArray, List.set_cons_zero, List.set_cons_succ])
            go_cut [61] (fun v61 wc => ∃ (kq : Nat) (x61_63 : Bool), v61 = .bool x61_63 ∧ Aside0 (laws_FnExactMirrorState.j1 kq t266 x61_63 l0_0 l0_1 a0_2 t259 t262 t265 t276 t279 t282 = some r) ∧ Aside0 (kq ≤ kj10) ∧ Aside0 (Kd.R (Kd.int .i64) 3 wc w.heap.size (fun k_ => some k_ ≠ ((.slice Ao24 t262.length co24) : Value).ownBlock ∧ some k_ ≠ ((.slice Ao28 t268.length co28) : Value).ownBlock ∧ some k_ ≠ ((.slice Ao32 t271.length co32) : Value).ownBlock ∧ some k_ ≠ ((.slice Ao35 t276.length co35) : Value).ownBlock ∧ some k_ ≠ ((.slice Ao40 t279.length co40) : Value).ownBlock) (.slice Ao21 t259.length co21) t259) ∧ Aside0 (Kd.R (Kd.int .i64) 3 wc w.heap.size (fun k_ => some k_ ≠ ((.slice Ao21 t259.length co21) : Value).ownBlock ∧ some k_ ≠ ((.slice Ao28 t268.length co28) : Value).ownBlock ∧ some k_ ≠ ((.slice Ao32 t271.length co32) : Value).ownBlock ∧ some k_ ≠ ((.slice Ao35 t276.length co35) : Value).ownBlock ∧ some k_ ≠ ((.slice Ao40 t279.length co40) : Value).ownBlock) (.slice Ao24 t262.length co24) t262) ∧ Aside0 (Kd.R (Kd.int .i64) 3 wc w.heap.size (fun k_ => some k_ ≠ ((.slice Ao21 t259.length co21) : Value).ownBlock ∧ some k_ ≠ ((.slice Ao24 t262.length co24) : Value).ownBlock ∧ some k_ ≠ ((.slice Ao32 t271.length co32) : Value).ownBlock ∧ some k_ ≠ ((.slice Ao35 t276.length co35) : Value).ownBlock ∧ some k_ ≠ ((.slice Ao40 t279.length co40) : Value).ownBlock) (.slice Ao28 t268.length co28) t295) ∧ Aside0 (Kd.R (Kd.int .i64) 3 wc w.heap.size (fun k_ => some k_ ≠ ((.slice Ao21 t259.length co21) : Value).ownBlock ∧ some k_ ≠ ((.slice Ao24 t262.length co24) : Value).ownBlock ∧ some k_ ≠ ((.slice Ao28 t268.length co28) : Value).ownBlock ∧ some k_ ≠ ((.slice Ao35 t276.length co35) : Value).ownBlock ∧ some k_ ≠ ((.slice Ao40 t279.length co40) : Value).ownBlock) (.slice Ao32 t271.length co32) t296) ∧ Aside0 (Kd.R (Kd.int .i64) 3 wc w.heap.size (fun k_ => some k_ ≠ ((.slice Ao21 t259.length co21) : Value).ownBlock ∧ some k_ ≠ ((.slice Ao24 t262.length co24) : Value).ownBlock ∧ some k_ ≠ ((.slice Ao28 t268.length co28) : Value).ownBlock ∧ some k_ ≠ ((.slice Ao32 t271.length co32) : Value).ownBlock ∧ some k_ ≠ ((.slice Ao40 t279.length co40) : Value).ownBlock) (.slice Ao35 t276.length co35) t276) ∧ Aside0 (Kd.R (Kd.int .i64) 3 wc w.heap.size (fun k_ => some k_ ≠ ((.slice Ao21 t259.length co21) : Value).ownBlock ∧ some k_ ≠ ((.slice Ao24 t262.length co24) : Value).ownBlock ∧ some k_ ≠ ((.slice Ao28 t268.length co28) : Value).ownBlock ∧ some k_ ≠ ((.slice Ao32 t271.length co32) : Value).ownBlock ∧ some k_ ≠ ((.slice Ao35 t276.length co35) : Value).ownBlock) (.slice Ao40 t279.length co40) t279) ∧ Aside0 (wc.heap[gb250]? = some (.cells #[(.slice A0_0 l0_0.length c0_0), (.slice A0_1 l0_1.length c0_1), .int .i64 a0_2] 24 (0, 0))) ∧ Aside0 (wc.heap[gb267]? = some (.cells #[(.slice Ao21 t259.length co21), (.slice Ao24 t262.length co24), .int .i64 t265] 27 (0, 0))) ∧ Aside0 (wc.heap[gb275]? = some (.cells #[(.slice Ao28 t268.length co28), (.slice Ao32 t271.length co32), .int .i64 t274] 27 (0, 0))) ∧ Aside0 (wc.heap[gb284]? = some (.cells #[(.slice Ao35 t276.length co35), (.slice Ao40 t279.length co40), .int .i64 t282] 27 (0, 0))) ∧ Aside0 (Below w.heap.size w wc))
            case first =>
              have H := HC64.out
              clear HC64
              by_cases c75 : t294 < 0
              · rw [if_pos c75] at H
                have c75b0 : decide (t294 < 0) = true := decide_eq_true c75
                clear c75
                (first | rw [c75b0] | (simp only [i64_w, i32_w]; rw [c75b0]) | skip)
                have H' := Aside0.mk H
                clear H
                go_wp2
                go_meet
                case rel => exact ⟨_, (true), (by first | rfl | (simp; done) | (simp [*]; done)), H', ⟨by have := HJ10.out; first | omega | exact Nat.le_refl _⟩, ⟨by (with_reducible repeat (first | apply Kd.R_alloc | apply Kd.R_drewN | apply Kd.R_drew)); exact Kd.R_mono HO_268000.out (fun _ hk => ⟨hk.1, ⟨hk.2.1, ⟨hk.2.2.1, ⟨hk.2.2.2.1, hk.2.2.2.2.1⟩⟩⟩⟩)⟩, ⟨by (with_reducible repeat (first | apply Kd.R_alloc | apply Kd.R_drewN | apply Kd.R_drew)); exact Kd.R_mono HO_268001.out (fun _ hk => ⟨hk.1, ⟨hk.2.1, ⟨hk.2.2.1, ⟨hk.2.2.2.1, hk.2.2.2.2.1⟩⟩⟩⟩)⟩, ⟨by (with_reducible repeat (first | apply Kd.R_alloc | apply Kd.R_drewN | apply Kd.R_drew)); exact Kd.R_mono HO_276000.out (fun _ hk => ⟨hk.1.1.1, ⟨hk.1.1.2.1, ⟨hk.1.1.2.2.1, ⟨hk.1.1.2.2.2.1, hk.1.1.2.2.2.2⟩⟩⟩⟩)⟩, ⟨by (with_reducible repeat (first | apply Kd.R_alloc | apply Kd.R_drewN | apply Kd.R_drew)); exact Kd.R_mono HO_276001.out (fun _ hk => ⟨hk.1.1.1, ⟨hk.1.1.2.1, ⟨hk.1.1.2.2.1, ⟨hk.1.1.2.2.2.1, hk.1.1.2.2.2.2⟩⟩⟩⟩)⟩, ⟨by (with_reducible repeat (first | apply Kd.R_alloc | apply Kd.R_drewN | apply Kd.R_drew)); exact Kd.R_mono HO_285000.out (fun _ hk => ⟨hk.1, ⟨hk.2.1, ⟨hk.2.2.1, ⟨hk.2.2.2.1, hk.2.2.2.2.1⟩⟩⟩⟩)⟩, ⟨by (with_reducible repeat (first | apply Kd.R_alloc | apply Kd.R_drewN | apply Kd.R_drew)); exact Kd.R_mono HO_285001.out (fun _ hk => ⟨hk.1, ⟨hk.2.1, ⟨hk.2.2.1, ⟨hk.2.2.2.1, hk.2.2.2.2.1⟩⟩⟩⟩)⟩, ⟨by (with_reducible repeat (first | refine blk_drewN ?_ _ | refine blk_drew ?_ | refine blk_alloc ?_ _)); exact BK250.out⟩, ⟨by (with_reducible repeat (first | refine blk_drewN ?_ _ | refine blk_drew ?_ | refine blk_alloc ?_ _)); exact BK267.out⟩, ⟨by (with_reducible repeat (first | refine blk_drewN ?_ _ | refine blk_drew ?_ | refine blk_alloc ?_ _)); exact BK275.out⟩, ⟨by (with_reducible repeat (first | refine blk_drewN ?_ _ | refine blk_drew ?_ | refine blk_alloc ?_ _)); exact BK284.out⟩, ⟨by repeat (first | (with_reducible first | exact HB.out | apply below_alloc | apply pw_below_drewN | apply below_drew1 | refine below_set ?_ GE250.out | refine below_set ?_ GE267.out | refine below_set ?_ GE275.out | refine below_set ?_ GE284.out) | exact HB.out)⟩⟩
              · rw [if_neg c75] at H
                have c75b0 : decide (t294 < 0) = false := decide_eq_false c75
                clear c75
                (first | rw [c75b0] | (simp only [i64_w, i32_w]; rw [c75b0]) | skip)
                replace H := Option.bind_eq_some_iff.mp H
                obtain ⟨t297, A760, H⟩ := H
                replace H : (if t297 = true then (laws_FnExactMirrorState.j1 kj10 t266 (t283 != t266) l0_0 l0_1 a0_2 t259 t262 t265 t276 t279 t282) else (laws_FnExactMirrorState.j1 kj10 t266 true l0_0 l0_1 a0_2 t259 t262 t265 t276 t279 t282)) = some r := H
                have A76 := Aside0.mk A760
                clear A760
                by_cases c77 : t297 = true
                · subst c77
                  have H1 : (laws_FnExactMirrorState.j1 kj10 t266 (t283 != t266) l0_0 l0_1 a0_2 t259 t262 t265 t276 t279 t282) = some r := by rw [if_pos rfl] at H; exact H
                  clear H
                  have H := H1
                  clear H1
                  have H' := Aside0.mk H
                  clear H
                  have hnb78 := NB284_250.out
                  have hnc78 := NB250_284.out
                  have hnb79 := NB284_267.out
                  have hnc79 := NB267_284.out
                  have hnb80 := NB284_275.out
                  have hnc80 := NB275_284.out
                  have hcz81_0 : w74.cell? ⟨gb284, 0, none⟩ = some (.slice Ao35 t276.length co35) := (blk_cell BK284.out 0).trans rfl
                  have hcz81_1 : w74.cell? ⟨gb284, 1, none⟩ = some (.slice Ao40 t279.length co40) := (blk_cell BK284.out 1).trans rfl
                  have hcz81_2 : w74.cell? ⟨gb284, 2, none⟩ = some (.int .i64 t282) := (blk_cell BK284.out 2).trans rfl
                  have hfz81_0 := blk_frozen BK284.out 0
                  have hfz81_1 := blk_frozen BK284.out 1
                  have hfz81_2 := blk_frozen BK284.out 2
                  have hnb82 := NB267_250.out
                  have hnc82 := NB250_267.out
                  have hnb83 := NB267_275.out
                  have hnc83 := NB275_267.out
                  have hcz84_0 : w74.cell? ⟨gb267, 0, none⟩ = some (.slice Ao21 t259.length co21) := (blk_cell BK267.out 0).trans rfl
                  have hcz84_1 : w74.cell? ⟨gb267, 1, none⟩ = some (.slice Ao24 t262.length co24) := (blk_cell BK267.out 1).trans rfl
                  have hcz84_2 : w74.cell? ⟨gb267, 2, none⟩ = some (.int .i64 t265) := (blk_cell BK267.out 2).trans rfl
                  have hfz84_0 := blk_frozen BK267.out 0
                  have hfz84_1 := blk_frozen BK267.out 1
                  have hfz84_2 := blk_frozen BK267.out 2
                  go_wp2_with (first | (go_at_call 14; (with_reducible refine (laws_eqState.calls kj10 _ _ t276 _ _ t279 t282 _ _ t259 _ _ t262 t265 true _ ?side1 ?side2 ?side3 ?side4 ?side5 ?side6 ?side7 ?side8 A76.out).mono ?_); (case side1 => repeat (first | exact (Kd.R_reads' HO_285000.out).2.2 | (with_reducible refine Kd.C_alloc ?_ _) | (with_reducible refine Kd.C_drewN ?_ _) | (with_reducible refine Kd.C_drew ?_))); (case side2 => exact (Kd.R_reads' HO_285000.out).2.1); (case side3 => repeat (first | exact (Kd.R_reads' HO_285001.out).2.2 | (with_reducible refine Kd.C_alloc ?_ _) | (with_reducible refine Kd.C_drewN ?_ _) | (with_reducible refine Kd.C_drew ?_))); (case side4 => exact (Kd.R_reads' HO_285001.out).2.1); (case side5 => repeat (first | exact (Kd.R_reads' HO_268000.out).2.2 | (with_reducible refine Kd.C_alloc ?_ _) | (with_reducible refine Kd.C_drewN ?_ _) | (with_reducible refine Kd.C_drew ?_))); (case side6 => exact (Kd.R_reads' HO_268000.out).2.1); (case side7 => repeat (first | exact (Kd.R_reads' HO_268001.out).2.2 | (with_reducible refine Kd.C_alloc ?_ _) | (with_reducible refine Kd.C_drewN ?_ _) | (with_reducible refine Kd.C_drew ?_))); (case side8 => exact (Kd.R_reads' HO_268001.out).2.1); rintro e w85 ⟨rfl, hb⟩; have n0_ := Aside0.mk (Kd.R_below (by (with_reducible repeat (first | apply Kd.R_alloc | apply Kd.R_drewN | apply Kd.R_drew)); exact HO_268000.out) hb); have n1_ := Aside0.mk (Kd.R_below (by (with_reducible repeat (first | apply Kd.R_alloc | apply Kd.R_drewN | apply Kd.R_drew)); exact HO_268001.out) hb); have n2_ := Aside0.mk (Kd.R_below (by (with_reducible repeat (first | apply Kd.R_alloc | apply Kd.R_drewN | apply Kd.R_drew)); exact HO_276000.out) hb); have n3_ := Aside0.mk (Kd.R_below (by (with_reducible repeat (first | apply Kd.R_alloc | apply Kd.R_drewN | apply Kd.R_drew)); exact HO_276001.out) hb); have n4_ := Aside0.mk (Kd.R_below (by (with_reducible repeat (first | apply Kd.R_alloc | apply Kd.R_drewN | apply Kd.R_drew)); exact HO_285000.out) hb); have n5_ := Aside0.mk (Kd.R_below (by (with_reducible repeat (first | apply Kd.R_alloc | apply Kd.R_drewN | apply Kd.R_drew)); exact HO_285001.out) hb); have n6_ := Aside0.mk (Kd.R_below (by (with_reducible repeat (first | apply Kd.R_alloc | apply Kd.R_drewN | apply Kd.R_drew)); exact HO288.out) hb); have n7_ := Aside0.mk (Kd.R_below (by (with_reducible repeat (first | apply Kd.R_alloc | apply Kd.R_drewN | apply Kd.R_drew)); exact HO291.out) hb); have n8_ := Aside0.mk (blk_below (g := gb250) (o := .cells #[.slice A0_0 l0_0.length c0_0, .slice A0_1 l0_1.length c0_1, .int .i64 a0_2] 24 (0, 0)) (by (with_reducible repeat (first | refine blk_drewN ?_ _ | refine blk_drew ?_ | refine blk_alloc ?_ _)); exact BK250.out) hb); have n9_ := Aside0.mk (blk_below (g := gb267) (o := .cells #[.slice Ao21 t259.length co21, .slice Ao24 t262.length co24, .int .i64 t265] 27 (0, 0)) (by (with_reducible repeat (first | refine blk_drewN ?_ _ | refine blk_drew ?_ | refine blk_alloc ?_ _)); exact BK267.out) hb); have n10_ := Aside0.mk (blk_below (g := gb275) (o := .cells #[.slice Ao28 t268.length co28, .slice Ao32 t271.length co32, .int .i64 t274] 27 (0, 0)) (by (with_reducible repeat (first | refine blk_drewN ?_ _ | refine blk_drew ?_ | refine blk_alloc ?_ _)); exact BK275.out) hb); have n11_ := Aside0.mk (blk_below (g := gb284) (o := .cells #[.slice Ao35 t276.length co35, .slice Ao40 t279.length co40, .int .i64 t282] 27 (0, 0)) (by (with_reducible repeat (first | refine blk_drewN ?_ _ | refine blk_drew ?_ | refine blk_alloc ?_ _)); exact BK284.out) hb); have n12_ := Aside0.mk (below_step (by repeat (first | (with_reducible first | exact HB.out | apply below_alloc | apply pw_below_drewN | apply below_drew1 | refine below_set ?_ GE250.out | refine below_set ?_ GE267.out | refine below_set ?_ GE275.out | refine below_set ?_ GE284.out) | exact HB.out)) hb); clear HO_268000; clear HO_268001; clear HO_276000; clear HO_276001; clear HO_285000; clear HO_285001; clear HO288; clear HO291; clear BK250; clear BK267; clear BK275; clear BK284; clear HB; have HO_268000 := n0_; have HO_268001 := n1_; have HO_276000 := n2_; have HO_276001 := n3_; have HO_285000 := n4_; have HO_285001 := n5_; have HO288 := n6_; have HO291 := n7_; have BK250 := n8_; have BK267 := n9_; have BK275 := n10_; have BK284 := n11_; have HB := n12_; clear n0_ n1_ n2_ n3_ n4_ n5_ n6_ n7_ n8_ n9_ n10_ n11_ n12_; (try clear hb); (try clear hb2); (try clear hk); (try clear hi)))
                  go_meet
                  case rel => exact ⟨_, ((t283 != t266)), (by first | rfl | (simp; done) | (simp [*]; done)), H', ⟨by have := HJ10.out; first | omega | exact Nat.le_refl _⟩, ⟨by (with_reducible repeat (first | apply Kd.R_alloc | apply Kd.R_drewN | apply Kd.R_drew)); exact Kd.R_mono HO_268000.out (fun _ hk => ⟨hk.1, ⟨hk.2.1, ⟨hk.2.2.1, ⟨hk.2.2.2.1, hk.2.2.2.2.1⟩⟩⟩⟩)⟩, ⟨by (with_reducible repeat (first | apply Kd.R_alloc | apply Kd.R_drewN | apply Kd.R_drew)); exact Kd.R_mono HO_268001.out (fun _ hk => ⟨hk.1, ⟨hk.2.1, ⟨hk.2.2.1, ⟨hk.2.2.2.1, hk.2.2.2.2.1⟩⟩⟩⟩)⟩, ⟨by (with_reducible repeat (first | apply Kd.R_alloc | apply Kd.R_drewN | apply Kd.R_drew)); exact Kd.R_mono HO_276000.out (fun _ hk => ⟨hk.1.1.1, ⟨hk.1.1.2.1, ⟨hk.1.1.2.2.1, ⟨hk.1.1.2.2.2.1, hk.1.1.2.2.2.2⟩⟩⟩⟩)⟩, ⟨by (with_reducible repeat (first | apply Kd.R_alloc | apply Kd.R_drewN | apply Kd.R_drew)); exact Kd.R_mono HO_276001.out (fun _ hk => ⟨hk.1.1.1, ⟨hk.1.1.2.1, ⟨hk.1.1.2.2.1, ⟨hk.1.1.2.2.2.1, hk.1.1.2.2.2.2⟩⟩⟩⟩)⟩, ⟨by (with_reducible repeat (first | apply Kd.R_alloc | apply Kd.R_drewN | apply Kd.R_drew)); exact Kd.R_mono HO_285000.out (fun _ hk => ⟨hk.1, ⟨hk.2.1, ⟨hk.2.2.1, ⟨hk.2.2.2.1, hk.2.2.2.2.1⟩⟩⟩⟩)⟩, ⟨by (with_reducible repeat (first | apply Kd.R_alloc | apply Kd.R_drewN | apply Kd.R_drew)); exact Kd.R_mono HO_285001.out (fun _ hk => ⟨hk.1, ⟨hk.2.1, ⟨hk.2.2.1, ⟨hk.2.2.2.1, hk.2.2.2.2.1⟩⟩⟩⟩)⟩, ⟨by (with_reducible repeat (first | refine blk_drewN ?_ _ | refine blk_drew ?_ | refine blk_alloc ?_ _)); exact BK250.out⟩, ⟨by (with_reducible repeat (first | refine blk_drewN ?_ _ | refine blk_drew ?_ | refine blk_alloc ?_ _)); exact BK267.out⟩, ⟨by (with_reducible repeat (first | refine blk_drewN ?_ _ | refine blk_drew ?_ | refine blk_alloc ?_ _)); exact BK275.out⟩, ⟨by (with_reducible repeat (first | refine blk_drewN ?_ _ | refine blk_drew ?_ | refine blk_alloc ?_ _)); exact BK284.out⟩, ⟨by repeat (first | (with_reducible first | exact HB.out | apply below_alloc | apply pw_below_drewN | apply below_drew1 | refine below_set ?_ GE250.out | refine below_set ?_ GE267.out | refine below_set ?_ GE275.out | refine below_set ?_ GE284.out) | exact HB.out)⟩⟩
                · replace c77 := Bool.eq_false_iff.mpr c77
                  subst c77
                  have H1 : (laws_FnExactMirrorState.j1 kj10 t266 true l0_0 l0_1 a0_2 t259 t262 t265 t276 t279 t282) = some r := by rw [if_neg (show ¬ (false = true) by decide)] at H; exact H
                  rw [hr_] at H1; exact absurd H1 (laws_FnExactMirrorState.j1_no _ _ _ _ _ _ _ _ _ _ _)
            case rest =>
              clear HC64
              try clear c1
              try clear c2
              try clear p2
              try clear c3
              try clear c3b0
              try clear c4
              try clear c5
              try clear c6
              try clear c7
              try clear c8
              try clear c9
              try clear c10
              try clear c12
              try clear c14
              try clear c17
              try clear c18
              try clear c19
              try clear c22
              try clear c29
              try clear c30
              try clear c36
              try clear c37
              try clear c38
              try clear c42
              try clear c43
              try clear c44
              try clear c45
              try clear c47
              try clear c48
              try clear c51
              try clear c52
              try clear c53
              try clear c55
              try clear c56
              try clear c59
              try clear c62
              try clear c70
              try clear c71
              try clear c72
              try clear c75
              try clear c75b0
              try clear c77
              try clear c78
              try clear c79
              try clear c80
              try clear c82
              try clear c83
              try clear c86
              try clear c87
              try clear c88
              try clear c90
              try clear c91
              try clear hcz13_0
              try clear hcz13_1
              try clear hcz13_2
              try clear hcz15_0
              try clear hcz15_1
              try clear hcz15_2
              try clear hcz23_0
              try clear hcz23_1
              try clear hcz23_2
              try clear hcz25_0
              try clear hcz25_1
              try clear hcz25_2
              try clear hcz31_0
              try clear hcz31_1
              try clear hcz31_2
              try clear hcz39_0
              try clear hcz39_1
              try clear hcz39_2
              try clear hcz46_0
              try clear hcz46_1
              try clear hcz46_2
              try clear hcz49_0
              try clear hcz49_1
              try clear hcz49_2
              try clear hcz54_0
              try clear hcz54_1
              try clear hcz54_2
              try clear hcz57_0
              try clear hcz57_1
              try clear hcz57_2
              try clear hcz5_0
              try clear hcz5_1
              try clear hcz5_2
              try clear hcz73_0
              try clear hcz73_1
              try clear hcz73_2
              try clear hcz81_0
              try clear hcz81_1
              try clear hcz81_2
              try clear hcz84_0
              try clear hcz84_1
              try clear hcz84_2
              try clear hcz89_0
              try clear hcz89_1
              try clear hcz89_2
              try clear hcz92_0
              try clear hcz92_1
              try clear hcz92_2
              try clear hfz13_0
              try clear hfz13_1
              try clear hfz13_2
              try clear hfz15_0
              try clear hfz15_1
              try clear hfz15_2
              try clear hfz23_0
              try clear hfz23_1
              try clear hfz23_2
              try clear hfz25_0
              try clear hfz25_1
              try clear hfz25_2
              try clear hfz31_0
              try clear hfz31_1
              try clear hfz31_2
              try clear hfz39_0
              try clear hfz39_1
              try clear hfz39_2
              try clear hfz46_0
              try clear hfz46_1
              try clear hfz46_2
              try clear hfz49_0
              try clear hfz49_1
              try clear hfz49_2
              try clear hfz54_0
              try clear hfz54_1
              try clear hfz54_2
              try clear hfz57_0
              try clear hfz57_1
              try clear hfz57_2
              try clear hfz5_0
              try clear hfz5_1
              try clear hfz5_2
              try clear hfz73_0
              try clear hfz73_1
              try clear hfz73_2
              try clear hfz81_0
              try clear hfz81_1
              try clear hfz81_2
              try clear hfz84_0
              try clear hfz84_1
              try clear hfz84_2
              try clear hfz89_0
              try clear hfz89_1
              try clear hfz89_2
              try clear hfz92_0
              try clear hfz92_1
              try clear hfz92_2
              try clear p2
              obtain ⟨kq, x61_63, rfl, HA, HJ63, HO_268000, HO_268001, HO_276000, HO_276001, HO_285000, HO_285001, BK250, BK267, BK275, BK284, HB⟩ := hcut
              have hl276000_63 := (Kd.R_reads' HO_276000.out).1
              rw [hl276000_63] at HO_276000
              (try simp only [hl276000_63])
              (try simp only [hl276000_63] at BK250)
              (try simp only [hl276000_63] at BK267)
              (try simp only [hl276000_63] at BK275)
              (try simp only [hl276000_63] at BK284)
              (try simp only [hl276000_63] at HO_268000)
              (try simp only [hl276000_63] at HO_268001)
              (try simp only [hl276000_63] at HO_276001)
              (try simp only [hl276000_63] at HO_285000)
              (try simp only [hl276000_63] at HO_285001)
              have hl276001_63 := (Kd.R_reads' HO_276001.out).1
              rw [hl276001_63] at HO_276001
              (try simp only [hl276001_63])
              (try simp only [hl276001_63] at BK250)
              (try simp only [hl276001_63] at BK267)
              (try simp only [hl276001_63] at BK275)
              (try simp only [hl276001_63] at BK284)
              (try simp only [hl276001_63] at HO_268000)
              (try simp only [hl276001_63] at HO_268001)
              (try simp only [hl276001_63] at HO_276000)
              (try simp only [hl276001_63] at HO_285000)
              (try simp only [hl276001_63] at HO_285001)
              cases kq with
              | zero => exact absurd HA.out (by simp [laws_FnExactMirrorState.j1])
              | succ kj63 =>
                have H := HA.out
                clear HA
                simp only [laws_FnExactMirrorState.j1] at H
                by_cases c94 : x61_63 = true
                · subst c94
                  have H1 : (some false) = some r := by rw [if_pos rfl] at H; exact H
                  rw [hr_] at H1; exact absurd H1 (by decide)
                · replace c94 := Bool.eq_false_iff.mpr c94
                  subst c94
                  have H1 : ((laws_markState.f kj63 t276 t279 t282 1).bind fun bt298 => ((laws_heldState.f kj63 bt298.2.1 bt298.2.2 t282 1).bind fun t301 => (if t301 < 0 then (some false) else (if t301 = bt298.1 then ((laws_toState.f kj63 l0_0 l0_1 a0_2).bind fun bt302 => ((impl_MirrorState.f kj63 bt302.1 bt302.2.1 bt302.2.2).bind fun bt309 => ((laws_eqState.f kj63 bt309.1 bt309.2.1 bt309.2.2.1 t259 t262 t265).bind fun t318 => (if t318 = true then (laws_FnExactMirrorState.j2 kj63 bt298.1 (bt309.2.2.2 != t266) bt298.2.1 bt298.2.2 t282) else (laws_FnExactMirrorState.j2 kj63 bt298.1 true bt298.2.1 bt298.2.2 t282))))) else (some false))))) = some r := by rw [if_neg (show ¬ (false = true) by decide)] at H; exact H
                  clear H
                  have H := H1
                  clear H1
                  replace H := Option.bind_eq_some_iff.mp H
                  obtain ⟨⟨t298, t299, t300⟩, A950, H⟩ := H
                  replace H : ((laws_heldState.f kj63 t299 t300 t282 1).bind fun t301 => (if t301 < 0 then (some false) else (if t301 = t298 then ((laws_toState.f kj63 l0_0 l0_1 a0_2).bind fun bt302 => ((impl_MirrorState.f kj63 bt302.1 bt302.2.1 bt302.2.2).bind fun bt309 => ((laws_eqState.f kj63 bt309.1 bt309.2.1 bt309.2.2.1 t259 t262 t265).bind fun t318 => (if t318 = true then (laws_FnExactMirrorState.j2 kj63 t298 (bt309.2.2.2 != t266) t299 t300 t282) else (laws_FnExactMirrorState.j2 kj63 t298 true t299 t300 t282))))) else (some false)))) = some r := H
                  have A95 := Aside0.mk A950
                  clear A950
                  replace H := Option.bind_eq_some_iff.mp H
                  obtain ⟨t301, A960, H⟩ := H
                  replace H : (if t301 < 0 then (some false) else (if t301 = t298 then ((laws_toState.f kj63 l0_0 l0_1 a0_2).bind fun bt302 => ((impl_MirrorState.f kj63 bt302.1 bt302.2.1 bt302.2.2).bind fun bt309 => ((laws_eqState.f kj63 bt309.1 bt309.2.1 bt309.2.2.1 t259 t262 t265).bind fun t318 => (if t318 = true then (laws_FnExactMirrorState.j2 kj63 t298 (bt309.2.2.2 != t266) t299 t300 t282) else (laws_FnExactMirrorState.j2 kj63 t298 true t299 t300 t282))))) else (some false))) = some r := H
                  have A96 := Aside0.mk A960
                  clear A960
                  by_cases c97 : t301 < 0
                  · rw [if_pos c97] at H
                    have c97b0 : decide (t301 < 0) = true := decide_eq_true c97
                    clear c97
                    obtain rfl := Option.some.inj H
                    have hnb98 := NB284_250.out
                    have hnc98 := NB250_284.out
                    have hnb99 := NB284_267.out
                    have hnc99 := NB267_284.out
                    have hnb100 := NB284_275.out
                    have hnc100 := NB275_284.out
                    have hcz101_0 : wc.cell? ⟨gb284, 0, none⟩ = some (.slice Ao35 t276.length co35) := (blk_cell BK284.out 0).trans rfl
                    have hcz101_1 : wc.cell? ⟨gb284, 1, none⟩ = some (.slice Ao40 t279.length co40) := (blk_cell BK284.out 1).trans rfl
                    have hcz101_2 : wc.cell? ⟨gb284, 2, none⟩ = some (.int .i64 t282) := (blk_cell BK284.out 2).trans rfl
                    have hfz101_0 := blk_frozen BK284.out 0
                    have hfz101_1 := blk_frozen BK284.out 1
                    have hfz101_2 := blk_frozen BK284.out 2
                    go_wp2_with (first | ((with_reducible refine gate_callee (f := 19) rfl ?_); refine goesL_ (some 64) rfl rfl Try.func19 (by kernel_rfl) rfl #[.agg #[.slice Ao35 t276.length co35, .slice Ao40 t279.length co40, .int .i64 t282], .int .i64 1] rfl (by (try simp only [List.map_toArray, List.map_cons, List.map_nil]); first | done | rfl | (simp only [List.length_drop, List.length_take]; rfl)) ?_; (with_reducible refine (laws_markState.calls kj63 (fun k_ => some k_ = (.slice Ao35 t276.length co35 : Value).ownBlock) (.slice Ao35 t276.length co35) t276 (fun k_ => some k_ = (.slice Ao40 t279.length co40 : Value).ownBlock) (.slice Ao40 t279.length co40) t279 t282 1 t298 t299 t300 w _ ?side1 ?side2 ?side3 ?side4 ?side5 A95.out).mono ?_); (case side1 => repeat (first | (with_reducible first | exact HB.out | apply below_alloc | apply pw_below_drewN | apply below_drew1 | refine below_set ?_ GE250.out | refine below_set ?_ GE267.out | refine below_set ?_ GE275.out | refine below_set ?_ GE284.out) | exact HB.out)); (case side2 => exact Kd.R_tight rfl HO_285000.out); (case side3 => exact fun k_ e_ => (HO_285000.out.1 k_ e_.symm).2.2.2.2); (case side4 => exact Kd.R_tight rfl HO_285001.out); (case side5 => exact fun k_ e_ => (HO_285001.out.1 k_ e_.symm).2.2.2.2); rintro e w102 ⟨rfl, hy0, hy1, hb, hkp⟩; refine ⟨_, rfl, ?_⟩; have n0_ := Aside0.mk (Kd.R_mono (ok' := fun k_ => some k_ ≠ (.slice Ao24 t262.length co24 : Value).ownBlock ∧ some k_ ≠ (.slice Ao28 t295.length co28 : Value).ownBlock ∧ some k_ ≠ (.slice Ao32 t296.length co32 : Value).ownBlock ∧ some k_ ≠ (.slice Ao35 t276.length co35 : Value).ownBlock ∧ some k_ ≠ (.slice Ao40 t279.length co40 : Value).ownBlock) (Kd.R_keptB (HO_268000.out) hkp (fun k_ hk_ hs_ => Or.elim hs_ (fun e_ => (hk_.2.2.2.1) e_) (fun e_ => (hk_.2.2.2.2) e_))) (fun k_ hk_ => ⟨hk_.1.1, hk_.1.2.1, hk_.1.2.2.1, hk_.1.2.2.2.1, hk_.1.2.2.2.2⟩)); have n1_ := Aside0.mk (Kd.R_mono (ok' := fun k_ => some k_ ≠ (.slice Ao21 t259.length co21 : Value).ownBlock ∧ some k_ ≠ (.slice Ao28 t295.length co28 : Value).ownBlock ∧ some k_ ≠ (.slice Ao32 t296.length co32 : Value).ownBlock ∧ some k_ ≠ (.slice Ao35 t276.length co35 : Value).ownBlock ∧ some k_ ≠ (.slice Ao40 t279.length co40 : Value).ownBlock) (Kd.R_keptB (HO_268001.out) hkp (fun k_ hk_ hs_ => Or.elim hs_ (fun e_ => (hk_.2.2.2.1) e_) (fun e_ => (hk_.2.2.2.2) e_))) (fun k_ hk_ => ⟨hk_.1.1, hk_.1.2.1, hk_.1.2.2.1, hk_.1.2.2.2.1, hk_.1.2.2.2.2⟩)); have n2_ := Aside0.mk (Kd.R_mono (ok' := fun k_ => some k_ ≠ (.slice Ao21 t259.length co21 : Value).ownBlock ∧ some k_ ≠ (.slice Ao24 t262.length co24 : Value).ownBlock ∧ some k_ ≠ (.slice Ao32 t296.length co32 : Value).ownBlock ∧ some k_ ≠ (.slice Ao35 t276.length co35 : Value).ownBlock ∧ some k_ ≠ (.slice Ao40 t279.length co40 : Value).ownBlock) (Kd.R_keptB (HO_276000.out) hkp (fun k_ hk_ hs_ => Or.elim hs_ (fun e_ => (hk_.2.2.2.1) e_) (fun e_ => (hk_.2.2.2.2) e_))) (fun k_ hk_ => ⟨hk_.1.1, hk_.1.2.1, hk_.1.2.2.1, hk_.1.2.2.2.1, hk_.1.2.2.2.2⟩)); have n3_ := Aside0.mk (Kd.R_mono (ok' := fun k_ => some k_ ≠ (.slice Ao21 t259.length co21 : Value).ownBlock ∧ some k_ ≠ (.slice Ao24 t262.length co24 : Value).ownBlock ∧ some k_ ≠ (.slice Ao28 t295.length co28 : Value).ownBlock ∧ some k_ ≠ (.slice Ao35 t276.length co35 : Value).ownBlock ∧ some k_ ≠ (.slice Ao40 t279.length co40 : Value).ownBlock) (Kd.R_keptB (HO_276001.out) hkp (fun k_ hk_ hs_ => Or.elim hs_ (fun e_ => (hk_.2.2.2.1) e_) (fun e_ => (hk_.2.2.2.2) e_))) (fun k_ hk_ => ⟨hk_.1.1, hk_.1.2.1, hk_.1.2.2.1, hk_.1.2.2.2.1, hk_.1.2.2.2.2⟩)); have n4_ := Aside0.mk (Kd.R_reok rfl hy0 (fun k_ e_ => HO_285000.out.1 k_ e_)); have n5_ := Aside0.mk (Kd.R_reok rfl hy1 (fun k_ e_ => HO_285001.out.1 k_ e_)); have n6_ := Aside0.mk (blk_kept (by (with_reducible repeat (first | refine blk_drewN ?_ _ | refine blk_drew ?_ | refine blk_alloc ?_ _)); exact BK250.out) hkp (fun hs_ => Or.elim hs_ (fun e_ => (fun e_ => (Kd.R_ne HO_285000.out BK250.out (by decide)) e_) e_) (fun e_ => (fun e_ => (Kd.R_ne HO_285001.out BK250.out (by decide)) e_) e_))); have n7_ := Aside0.mk (blk_kept (by (with_reducible repeat (first | refine blk_drewN ?_ _ | refine blk_drew ?_ | refine blk_alloc ?_ _)); exact BK267.out) hkp (fun hs_ => Or.elim hs_ (fun e_ => (fun e_ => (Kd.R_ne HO_285000.out BK267.out (by decide)) e_) e_) (fun e_ => (fun e_ => (Kd.R_ne HO_285001.out BK267.out (by decide)) e_) e_))); have n8_ := Aside0.mk (blk_kept (by (with_reducible repeat (first | refine blk_drewN ?_ _ | refine blk_drew ?_ | refine blk_alloc ?_ _)); exact BK275.out) hkp (fun hs_ => Or.elim hs_ (fun e_ => (fun e_ => (Kd.R_ne HO_285000.out BK275.out (by decide)) e_) e_) (fun e_ => (fun e_ => (Kd.R_ne HO_285001.out BK275.out (by decide)) e_) e_))); have n9_ := Aside0.mk (blk_kept (by (with_reducible repeat (first | refine blk_drewN ?_ _ | refine blk_drew ?_ | refine blk_alloc ?_ _)); exact BK284.out) hkp (fun hs_ => Or.elim hs_ (fun e_ => (fun e_ => (Kd.R_ne HO_285000.out BK284.out (by decide)) e_) e_) (fun e_ => (fun e_ => (Kd.R_ne HO_285001.out BK284.out (by decide)) e_) e_))); have n10_ := Aside0.mk (hb); clear HO_268000; clear HO_268001; clear HO_276000; clear HO_276001; clear HO_285000; clear HO_285001; clear BK250; clear BK267; clear BK275; clear BK284; clear HB; have HO_268000 := n0_; have HO_268001 := n1_; have HO_276000 := n2_; have HO_276001 := n3_; have HO_285000 := n4_; have HO_285001 := n5_; have BK250 := n6_; have BK267 := n7_; have BK275 := n8_; have BK284 := n9_; have HB := n10_; clear n0_ n1_ n2_ n3_ n4_ n5_ n6_ n7_ n8_ n9_ n10_; (try clear hb); (try clear hkp); (try clear hy0); (try clear hy1); have hcz103_0 : w102.cell? ⟨gb284, 0, none⟩ = some (.slice Ao35 t276.length co35) := (blk_cell BK284.out 0).trans rfl; have hcz103_1 : w102.cell? ⟨gb284, 1, none⟩ = some (.slice Ao40 t279.length co40) := (blk_cell BK284.out 1).trans rfl; have hcz103_2 : w102.cell? ⟨gb284, 2, none⟩ = some (.int .i64 t282) := (blk_cell BK284.out 2).trans rfl; have hfz103_0 := blk_frozen BK284.out 0; have hfz103_1 := blk_frozen BK284.out 1; have hfz103_2 := blk_frozen BK284.out 2) | ((with_reducible refine gate_callee (f := 20) rfl ?_); refine goesL_ (some 67) rfl rfl Try.func20 (by kernel_rfl) rfl #[.agg #[.slice Ao35 t299.length co35, .slice Ao40 t300.length co40, .int .i64 t282], .int .i64 1] rfl (by (try simp only [List.map_toArray, List.map_cons, List.map_nil]); first | done | (rw [show t299.length = t276.length from (Kd.R_reads' HO_285000.out).1.symm, show t300.length = t279.length from (Kd.R_reads' HO_285001.out).1.symm] <;> rfl) | rfl | (simp only [List.length_drop, List.length_take]; rfl)) ?_; (with_reducible refine (laws_heldState.calls kj63 _ _ t299 _ _ t300 t282 1 t301 _ ?side1 ?side2 ?side3 ?side4 A96.out).mono ?_); (case side1 => repeat (first | exact (Kd.R_reads' HO_285000.out).2.2 | (with_reducible refine Kd.C_alloc ?_ _) | (with_reducible refine Kd.C_drewN ?_ _) | (with_reducible refine Kd.C_drew ?_))); (case side2 => rw [show t299.length = t276.length from (Kd.R_reads' HO_285000.out).1.symm]; exact (Kd.R_reads' HO_285000.out).2.1); (case side3 => repeat (first | exact (Kd.R_reads' HO_285001.out).2.2 | (with_reducible refine Kd.C_alloc ?_ _) | (with_reducible refine Kd.C_drewN ?_ _) | (with_reducible refine Kd.C_drew ?_))); (case side4 => rw [show t300.length = t279.length from (Kd.R_reads' HO_285001.out).1.symm]; exact (Kd.R_reads' HO_285001.out).2.1); rintro e w104 ⟨rfl, hb⟩; refine ⟨_, rfl, ?_⟩; have n0_ := Aside0.mk (Kd.R_below (by (with_reducible repeat (first | apply Kd.R_alloc | apply Kd.R_drewN | apply Kd.R_drew)); exact HO_268000.out) hb); have n1_ := Aside0.mk (Kd.R_below (by (with_reducible repeat (first | apply Kd.R_alloc | apply Kd.R_drewN | apply Kd.R_drew)); exact HO_268001.out) hb); have n2_ := Aside0.mk (Kd.R_below (by (with_reducible repeat (first | apply Kd.R_alloc | apply Kd.R_drewN | apply Kd.R_drew)); exact HO_276000.out) hb); have n3_ := Aside0.mk (Kd.R_below (by (with_reducible repeat (first | apply Kd.R_alloc | apply Kd.R_drewN | apply Kd.R_drew)); exact HO_276001.out) hb); have n4_ := Aside0.mk (Kd.R_below (by (with_reducible repeat (first | apply Kd.R_alloc | apply Kd.R_drewN | apply Kd.R_drew)); exact HO_285000.out) hb); have n5_ := Aside0.mk (Kd.R_below (by (with_reducible repeat (first | apply Kd.R_alloc | apply Kd.R_drewN | apply Kd.R_drew)); exact HO_285001.out) hb); have n6_ := Aside0.mk (blk_below (g := gb250) (o := .cells #[.slice A0_0 l0_0.length c0_0, .slice A0_1 l0_1.length c0_1, .int .i64 a0_2] 24 (0, 0)) (by (with_reducible repeat (first | refine blk_drewN ?_ _ | refine blk_drew ?_ | refine blk_alloc ?_ _)); exact BK250.out) hb); have n7_ := Aside0.mk (blk_below (g := gb267) (o := .cells #[.slice Ao21 t259.length co21, .slice Ao24 t262.length co24, .int .i64 t265] 27 (0, 0)) (by (with_reducible repeat (first | refine blk_drewN ?_ _ | refine blk_drew ?_ | refine blk_alloc ?_ _)); exact BK267.out) hb); have n8_ := Aside0.mk (blk_below (g := gb275) (o := .cells #[.slice Ao28 t295.length co28, .slice Ao32 t296.length co32, .int .i64 t274] 27 (0, 0)) (by (with_reducible repeat (first | refine blk_drewN ?_ _ | refine blk_drew ?_ | refine blk_alloc ?_ _)); exact BK275.out) hb); have n9_ := Aside0.mk (blk_below (g := gb284) (o := .cells #[.slice Ao35 t276.length co35, .slice Ao40 t279.length co40, .int .i64 t282] 27 (0, 0)) (by (with_reducible repeat (first | refine blk_drewN ?_ _ | refine blk_drew ?_ | refine blk_alloc ?_ _)); exact BK284.out) hb); have n10_ := Aside0.mk (below_step (by repeat (first | (with_reducible first | exact HB.out | apply below_alloc | apply pw_below_drewN | apply below_drew1 | refine below_set ?_ GE250.out | refine below_set ?_ GE267.out | refine below_set ?_ GE275.out | refine below_set ?_ GE284.out) | exact HB.out)) hb); clear HO_268000; clear HO_268001; clear HO_276000; clear HO_276001; clear HO_285000; clear HO_285001; clear BK250; clear BK267; clear BK275; clear BK284; clear HB; have HO_268000 := n0_; have HO_268001 := n1_; have HO_276000 := n2_; have HO_276001 := n3_; have HO_285000 := n4_; have HO_285001 := n5_; have BK250 := n6_; have BK267 := n7_; have BK275 := n8_; have BK284 := n9_; have HB := n10_; clear n0_ n1_ n2_ n3_ n4_ n5_ n6_ n7_ n8_ n9_ n10_; (try clear hb); (try clear hb2); (try clear hk); (try clear hi)))
                    go_ret
                    exact ⟨by first | rfl | (simp [errW_none, errW_some] <;> rfl) | (simp [*, errW_none, errW_some] <;> rfl), by repeat (first | (with_reducible first | exact HB.out | apply below_alloc | apply pw_below_drewN | apply below_drew1 | refine below_set ?_ GE250.out | refine below_set ?_ GE267.out | refine below_set ?_ GE275.out | refine below_set ?_ GE284.out) | exact HB.out)⟩
                  · rw [if_neg c97] at H
                    have c97b0 : decide (t301 < 0) = false := decide_eq_false c97
                    clear c97
                    by_cases c105 : t301 = t298
                    · rw [if_pos c105] at H
                      have c105b0 : (t301 == t298) = true := beq_iff_eq.mpr c105
                      have c105b1 : (t301 != t298) = false := bne_eq_false_iff_eq.mpr c105
                      clear c105
                      replace H := Option.bind_eq_some_iff.mp H
                      obtain ⟨⟨t302, t305, t308⟩, A1060, H⟩ := H
                      replace H : ((impl_MirrorState.f kj63 t302 t305 t308).bind fun bt309 => ((laws_eqState.f kj63 bt309.1 bt309.2.1 bt309.2.2.1 t259 t262 t265).bind fun t318 => (if t318 = true then (laws_FnExactMirrorState.j2 kj63 t298 (bt309.2.2.2 != t266) t299 t300 t282) else (laws_FnExactMirrorState.j2 kj63 t298 true t299 t300 t282)))) = some r := H
                      have A106 := Aside0.mk A1060
                      clear A1060
                      replace H := Option.bind_eq_some_iff.mp H
                      obtain ⟨⟨t309, t312, t315, t316⟩, A1070, H⟩ := H
                      replace H : ((laws_eqState.f kj63 t309 t312 t315 t259 t262 t265).bind fun t318 => (if t318 = true then (laws_FnExactMirrorState.j2 kj63 t298 (t316 != t266) t299 t300 t282) else (laws_FnExactMirrorState.j2 kj63 t298 true t299 t300 t282))) = some r := H
                      have A107 := Aside0.mk A1070
                      clear A1070
                      have HC108 := Aside0.mk H
                      clear H
                      have hnb109 := NB284_250.out
                      have hnc109 := NB250_284.out
                      have hnb110 := NB284_267.out
                      have hnc110 := NB267_284.out
                      have hnb111 := NB284_275.out
                      have hnc111 := NB275_284.out
                      have hcz112_0 : wc.cell? ⟨gb284, 0, none⟩ = some (.slice Ao35 t276.length co35) := (blk_cell BK284.out 0).trans rfl
                      have hcz112_1 : wc.cell? ⟨gb284, 1, none⟩ = some (.slice Ao40 t279.length co40) := (blk_cell BK284.out 1).trans rfl
                      have hcz112_2 : wc.cell? ⟨gb284, 2, none⟩ = some (.int .i64 t282) := (blk_cell BK284.out 2).trans rfl
                      have hfz112_0 := blk_frozen BK284.out 0
                      have hfz112_1 := blk_frozen BK284.out 1
                      have hfz112_2 := blk_frozen BK284.out 2
                      go_upto_region 25 with (first | ((with_reducible refine gate_callee (f := 19) rfl ?_); refine goesL_ (some 64) rfl rfl Try.func19 (by kernel_rfl) rfl #[.agg #[.slice Ao35 t276.length co35, .slice Ao40 t279.length co40, .int .i64 t282], .int .i64 1] rfl (by (try simp only [List.map_toArray, List.map_cons, List.map_nil]); first | done | rfl | (simp only [List.length_drop, List.length_take]; rfl)) ?_; (with_reducible refine (laws_markState.calls kj63 (fun k_ => some k_ = (.slice Ao35 t276.length co35 : Value).ownBlock) (.slice Ao35 t276.length co35) t276 (fun k_ => some k_ = (.slice Ao40 t279.length co40 : Value).ownBlock) (.slice Ao40 t279.length co40) t279 t282 1 t298 t299 t300 w _ ?side1 ?side2 ?side3 ?side4 ?side5 A95.out).mono ?_); (case side1 => repeat (first | (with_reducible first | exact HB.out | apply below_alloc | apply pw_below_drewN | apply below_drew1 | refine below_set ?_ GE250.out | refine below_set ?_ GE267.out | refine below_set ?_ GE275.out | refine below_set ?_ GE284.out) | exact HB.out)); (case side2 => exact Kd.R_tight rfl HO_285000.out); (case side3 => exact fun k_ e_ => (HO_285000.out.1 k_ e_.symm).2.2.2.2); (case side4 => exact Kd.R_tight rfl HO_285001.out); (case side5 => exact fun k_ e_ => (HO_285001.out.1 k_ e_.symm).2.2.2.2); rintro e w113 ⟨rfl, hy0, hy1, hb, hkp⟩; refine ⟨_, rfl, ?_⟩; have n0_ := Aside0.mk (Kd.R_mono (ok' := fun k_ => some k_ ≠ (.slice Ao24 t262.length co24 : Value).ownBlock ∧ some k_ ≠ (.slice Ao28 t295.length co28 : Value).ownBlock ∧ some k_ ≠ (.slice Ao32 t296.length co32 : Value).ownBlock ∧ some k_ ≠ (.slice Ao35 t276.length co35 : Value).ownBlock ∧ some k_ ≠ (.slice Ao40 t279.length co40 : Value).ownBlock) (Kd.R_keptB (HO_268000.out) hkp (fun k_ hk_ hs_ => Or.elim hs_ (fun e_ => (hk_.2.2.2.1) e_) (fun e_ => (hk_.2.2.2.2) e_))) (fun k_ hk_ => ⟨hk_.1.1, hk_.1.2.1, hk_.1.2.2.1, hk_.1.2.2.2.1, hk_.1.2.2.2.2⟩)); have n1_ := Aside0.mk (Kd.R_mono (ok' := fun k_ => some k_ ≠ (.slice Ao21 t259.length co21 : Value).ownBlock ∧ some k_ ≠ (.slice Ao28 t295.length co28 : Value).ownBlock ∧ some k_ ≠ (.slice Ao32 t296.length co32 : Value).ownBlock ∧ some k_ ≠ (.slice Ao35 t276.length co35 : Value).ownBlock ∧ some k_ ≠ (.slice Ao40 t279.length co40 : Value).ownBlock) (Kd.R_keptB (HO_268001.out) hkp (fun k_ hk_ hs_ => Or.elim hs_ (fun e_ => (hk_.2.2.2.1) e_) (fun e_ => (hk_.2.2.2.2) e_))) (fun k_ hk_ => ⟨hk_.1.1, hk_.1.2.1, hk_.1.2.2.1, hk_.1.2.2.2.1, hk_.1.2.2.2.2⟩)); have n2_ := Aside0.mk (Kd.R_mono (ok' := fun k_ => some k_ ≠ (.slice Ao21 t259.length co21 : Value).ownBlock ∧ some k_ ≠ (.slice Ao24 t262.length co24 : Value).ownBlock ∧ some k_ ≠ (.slice Ao32 t296.length co32 : Value).ownBlock ∧ some k_ ≠ (.slice Ao35 t276.length co35 : Value).ownBlock ∧ some k_ ≠ (.slice Ao40 t279.length co40 : Value).ownBlock) (Kd.R_keptB (HO_276000.out) hkp (fun k_ hk_ hs_ => Or.elim hs_ (fun e_ => (hk_.2.2.2.1) e_) (fun e_ => (hk_.2.2.2.2) e_))) (fun k_ hk_ => ⟨hk_.1.1, hk_.1.2.1, hk_.1.2.2.1, hk_.1.2.2.2.1, hk_.1.2.2.2.2⟩)); have n3_ := Aside0.mk (Kd.R_mono (ok' := fun k_ => some k_ ≠ (.slice Ao21 t259.length co21 : Value).ownBlock ∧ some k_ ≠ (.slice Ao24 t262.length co24 : Value).ownBlock ∧ some k_ ≠ (.slice Ao28 t295.length co28 : Value).ownBlock ∧ some k_ ≠ (.slice Ao35 t276.length co35 : Value).ownBlock ∧ some k_ ≠ (.slice Ao40 t279.length co40 : Value).ownBlock) (Kd.R_keptB (HO_276001.out) hkp (fun k_ hk_ hs_ => Or.elim hs_ (fun e_ => (hk_.2.2.2.1) e_) (fun e_ => (hk_.2.2.2.2) e_))) (fun k_ hk_ => ⟨hk_.1.1, hk_.1.2.1, hk_.1.2.2.1, hk_.1.2.2.2.1, hk_.1.2.2.2.2⟩)); have n4_ := Aside0.mk (Kd.R_reok rfl hy0 (fun k_ e_ => HO_285000.out.1 k_ e_)); have n5_ := Aside0.mk (Kd.R_reok rfl hy1 (fun k_ e_ => HO_285001.out.1 k_ e_)); have n6_ := Aside0.mk (blk_kept (by (with_reducible repeat (first | refine blk_drewN ?_ _ | refine blk_drew ?_ | refine blk_alloc ?_ _)); exact BK250.out) hkp (fun hs_ => Or.elim hs_ (fun e_ => (fun e_ => (Kd.R_ne HO_285000.out BK250.out (by decide)) e_) e_) (fun e_ => (fun e_ => (Kd.R_ne HO_285001.out BK250.out (by decide)) e_) e_))); have n7_ := Aside0.mk (blk_kept (by (with_reducible repeat (first | refine blk_drewN ?_ _ | refine blk_drew ?_ | refine blk_alloc ?_ _)); exact BK267.out) hkp (fun hs_ => Or.elim hs_ (fun e_ => (fun e_ => (Kd.R_ne HO_285000.out BK267.out (by decide)) e_) e_) (fun e_ => (fun e_ => (Kd.R_ne HO_285001.out BK267.out (by decide)) e_) e_))); have n8_ := Aside0.mk (blk_kept (by (with_reducible repeat (first | refine blk_drewN ?_ _ | refine blk_drew ?_ | refine blk_alloc ?_ _)); exact BK275.out) hkp (fun hs_ => Or.elim hs_ (fun e_ => (fun e_ => (Kd.R_ne HO_285000.out BK275.out (by decide)) e_) e_) (fun e_ => (fun e_ => (Kd.R_ne HO_285001.out BK275.out (by decide)) e_) e_))); have n9_ := Aside0.mk (blk_kept (by (with_reducible repeat (first | refine blk_drewN ?_ _ | refine blk_drew ?_ | refine blk_alloc ?_ _)); exact BK284.out) hkp (fun hs_ => Or.elim hs_ (fun e_ => (fun e_ => (Kd.R_ne HO_285000.out BK284.out (by decide)) e_) e_) (fun e_ => (fun e_ => (Kd.R_ne HO_285001.out BK284.out (by decide)) e_) e_))); have n10_ := Aside0.mk (hb); clear HO_268000; clear HO_268001; clear HO_276000; clear HO_276001; clear HO_285000; clear HO_285001; clear BK250; clear BK267; clear BK275; clear BK284; clear HB; have HO_268000 := n0_; have HO_268001 := n1_; have HO_276000 := n2_; have HO_276001 := n3_; have HO_285000 := n4_; have HO_285001 := n5_; have BK250 := n6_; have BK267 := n7_; have BK275 := n8_; have BK284 := n9_; have HB := n10_; clear n0_ n1_ n2_ n3_ n4_ n5_ n6_ n7_ n8_ n9_ n10_; (try clear hb); (try clear hkp); (try clear hy0); (try clear hy1); have hcz114_0 : w113.cell? ⟨gb284, 0, none⟩ = some (.slice Ao35 t276.length co35) := (blk_cell BK284.out 0).trans rfl; have hcz114_1 : w113.cell? ⟨gb284, 1, none⟩ = some (.slice Ao40 t279.length co40) := (blk_cell BK284.out 1).trans rfl; have hcz114_2 : w113.cell? ⟨gb284, 2, none⟩ = some (.int .i64 t282) := (blk_cell BK284.out 2).trans rfl; have hfz114_0 := blk_frozen BK284.out 0; have hfz114_1 := blk_frozen BK284.out 1; have hfz114_2 := blk_frozen BK284.out 2) | ((with_reducible refine gate_callee (f := 20) rfl ?_); refine goesL_ (some 67) rfl rfl Try.func20 (by kernel_rfl) rfl #[.agg #[.slice Ao35 t299.length co35, .slice Ao40 t300.length co40, .int .i64 t282], .int .i64 1] rfl (by (try simp only [List.map_toArray, List.map_cons, List.map_nil]); first | done | (rw [show t299.length = t276.length from (Kd.R_reads' HO_285000.out).1.symm, show t300.length = t279.length from (Kd.R_reads' HO_285001.out).1.symm] <;> rfl) | rfl | (simp only [List.length_drop, List.length_take]; rfl)) ?_; (with_reducible refine (laws_heldState.calls kj63 _ _ t299 _ _ t300 t282 1 t301 _ ?side1 ?side2 ?side3 ?side4 A96.out).mono ?_); (case side1 => repeat (first | exact (Kd.R_reads' HO_285000.out).2.2 | (with_reducible refine Kd.C_alloc ?_ _) | (with_reducible refine Kd.C_drewN ?_ _) | (with_reducible refine Kd.C_drew ?_))); (case side2 => rw [show t299.length = t276.length from (Kd.R_reads' HO_285000.out).1.symm]; exact (Kd.R_reads' HO_285000.out).2.1); (case side3 => repeat (first | exact (Kd.R_reads' HO_285001.out).2.2 | (with_reducible refine Kd.C_alloc ?_ _) | (with_reducible refine Kd.C_drewN ?_ _) | (with_reducible refine Kd.C_drew ?_))); (case side4 => rw [show t300.length = t279.length from (Kd.R_reads' HO_285001.out).1.symm]; exact (Kd.R_reads' HO_285001.out).2.1); rintro e w115 ⟨rfl, hb⟩; refine ⟨_, rfl, ?_⟩; have n0_ := Aside0.mk (Kd.R_below (by (with_reducible repeat (first | apply Kd.R_alloc | apply Kd.R_drewN | apply Kd.R_drew)); exact HO_268000.out) hb); have n1_ := Aside0.mk (Kd.R_below (by (with_reducible repeat (first | apply Kd.R_alloc | apply Kd.R_drewN | apply Kd.R_drew)); exact HO_268001.out) hb); have n2_ := Aside0.mk (Kd.R_below (by (with_reducible repeat (first | apply Kd.R_alloc | apply Kd.R_drewN | apply Kd.R_drew)); exact HO_276000.out) hb); have n3_ := Aside0.mk (Kd.R_below (by (with_reducible repeat (first | apply Kd.R_alloc | apply Kd.R_drewN | apply Kd.R_drew)); exact HO_276001.out) hb); have n4_ := Aside0.mk (Kd.R_below (by (with_reducible repeat (first | apply Kd.R_alloc | apply Kd.R_drewN | apply Kd.R_drew)); exact HO_285000.out) hb); have n5_ := Aside0.mk (Kd.R_below (by (with_reducible repeat (first | apply Kd.R_alloc | apply Kd.R_drewN | apply Kd.R_drew)); exact HO_285001.out) hb); have n6_ := Aside0.mk (blk_below (g := gb250) (o := .cells #[.slice A0_0 l0_0.length c0_0, .slice A0_1 l0_1.length c0_1, .int .i64 a0_2] 24 (0, 0)) (by (with_reducible repeat (first | refine blk_drewN ?_ _ | refine blk_drew ?_ | refine blk_alloc ?_ _)); exact BK250.out) hb); have n7_ := Aside0.mk (blk_below (g := gb267) (o := .cells #[.slice Ao21 t259.length co21, .slice Ao24 t262.length co24, .int .i64 t265] 27 (0, 0)) (by (with_reducible repeat (first | refine blk_drewN ?_ _ | refine blk_drew ?_ | refine blk_alloc ?_ _)); exact BK267.out) hb); have n8_ := Aside0.mk (blk_below (g := gb275) (o := .cells #[.slice Ao28 t295.length co28, .slice Ao32 t296.length co32, .int .i64 t274] 27 (0, 0)) (by (with_reducible repeat (first | refine blk_drewN ?_ _ | refine blk_drew ?_ | refine blk_alloc ?_ _)); exact BK275.out) hb); have n9_ := Aside0.mk (blk_below (g := gb284) (o := .cells #[.slice Ao35 t276.length co35, .slice Ao40 t279.length co40, .int .i64 t282] 27 (0, 0)) (by (with_reducible repeat (first | refine blk_drewN ?_ _ | refine blk_drew ?_ | refine blk_alloc ?_ _)); exact BK284.out) hb); have n10_ := Aside0.mk (below_step (by repeat (first | (with_reducible first | exact HB.out | apply below_alloc | apply pw_below_drewN | apply below_drew1 | refine below_set ?_ GE250.out | refine below_set ?_ GE267.out | refine below_set ?_ GE275.out | refine below_set ?_ GE284.out) | exact HB.out)) hb); clear HO_268000; clear HO_268001; clear HO_276000; clear HO_276001; clear HO_285000; clear HO_285001; clear BK250; clear BK267; clear BK275; clear BK284; clear HB; have HO_268000 := n0_; have HO_268001 := n1_; have HO_276000 := n2_; have HO_276001 := n3_; have HO_285000 := n4_; have HO_285001 := n5_; have BK250 := n6_; have BK267 := n7_; have BK275 := n8_; have BK284 := n9_; have HB := n10_; clear n0_ n1_ n2_ n3_ n4_ n5_ n6_ n7_ n8_ n9_ n10_; (try clear hb); (try clear hb2); (try clear hk); (try clear hi); have hnb116 := NB250_267.out; have hnc116 := NB267_250.out; have hnb117 := NB250_275.out; have hnc117 := NB275_250.out; have hcz118_0 : w115.cell? ⟨gb250, 0, none⟩ = some (.slice A0_0 l0_0.length c0_0) := (blk_cell BK250.out 0).trans rfl; have hcz118_1 : w115.cell? ⟨gb250, 1, none⟩ = some (.slice A0_1 l0_1.length c0_1) := (blk_cell BK250.out 1).trans rfl; have hcz118_2 : w115.cell? ⟨gb250, 2, none⟩ = some (.int .i64 a0_2) := (blk_cell BK250.out 2).trans rfl; have hfz118_0 := blk_frozen BK250.out 0; have hfz118_1 := blk_frozen BK250.out 1; have hfz118_2 := blk_frozen BK250.out 2) | ((with_reducible refine gate_callee (f := 12) rfl ?_); refine goesL_ (some 75) rfl rfl Try.func12 (by kernel_rfl) rfl #[.agg #[.slice A0_0 l0_0.length c0_0, .slice A0_1 l0_1.length c0_1, .int .i64 a0_2]] rfl (by (try simp only [List.map_toArray, List.map_cons, List.map_nil]); first | done | rfl | (simp only [List.length_drop, List.length_take]; rfl)) ?_; (with_reducible refine (laws_toState.calls kj63 _ _ l0_0 _ _ l0_1 a0_2 t302 t305 t308 _ ?side1 ?side2 ?side3 ?side4 A106.out).mono ?_); (case side1 => repeat (first | exact (Kd.C_below HR0_0.out HB.out) | (with_reducible refine Kd.C_alloc ?_ _) | (with_reducible refine Kd.C_drewN ?_ _) | (with_reducible refine Kd.C_drew ?_))); (case side2 => exact HC0_0.out); (case side3 => repeat (first | exact (Kd.C_below HR0_1.out HB.out) | (with_reducible refine Kd.C_alloc ?_ _) | (with_reducible refine Kd.C_drewN ?_ _) | (with_reducible refine Kd.C_drew ?_))); (case side4 => exact HC0_1.out); rintro e w119 ⟨v303, v306, rfl, ho0, ho1, hb⟩; refine ⟨_, rfl, ?_⟩; have n0_ := Aside0.mk (Kd.R_mono (Kd.R_told (Kd.R_told (Kd.R_old (by (with_reducible repeat (first | apply Kd.R_alloc | apply Kd.R_drewN | apply Kd.R_drew)); exact HO_268000.out) hb) (Kd.R_base ho0)) (Kd.R_base ho1)) (fun _ h_ => h_.1)); have n1_ := Aside0.mk (Kd.R_mono (Kd.R_told (Kd.R_told (Kd.R_old (by (with_reducible repeat (first | apply Kd.R_alloc | apply Kd.R_drewN | apply Kd.R_drew)); exact HO_268001.out) hb) (Kd.R_base ho0)) (Kd.R_base ho1)) (fun _ h_ => h_.1)); have n2_ := Aside0.mk (Kd.R_mono (Kd.R_told (Kd.R_told (Kd.R_old (by (with_reducible repeat (first | apply Kd.R_alloc | apply Kd.R_drewN | apply Kd.R_drew)); exact HO_276000.out) hb) (Kd.R_base ho0)) (Kd.R_base ho1)) (fun _ h_ => h_.1)); have n3_ := Aside0.mk (Kd.R_mono (Kd.R_told (Kd.R_told (Kd.R_old (by (with_reducible repeat (first | apply Kd.R_alloc | apply Kd.R_drewN | apply Kd.R_drew)); exact HO_276001.out) hb) (Kd.R_base ho0)) (Kd.R_base ho1)) (fun _ h_ => h_.1)); have n4_ := Aside0.mk (Kd.R_mono (Kd.R_told (Kd.R_told (Kd.R_old (by (with_reducible repeat (first | apply Kd.R_alloc | apply Kd.R_drewN | apply Kd.R_drew)); exact HO_285000.out) hb) (Kd.R_base ho0)) (Kd.R_base ho1)) (fun _ h_ => h_.1)); have n5_ := Aside0.mk (Kd.R_mono (Kd.R_told (Kd.R_told (Kd.R_old (by (with_reducible repeat (first | apply Kd.R_alloc | apply Kd.R_drewN | apply Kd.R_drew)); exact HO_285001.out) hb) (Kd.R_base ho0)) (Kd.R_base ho1)) (fun _ h_ => h_.1)); have n6_ := Aside0.mk (Kd.R_lower (Kd.R_new' (Kd.R_new' (Kd.R_new' (Kd.R_new' (Kd.R_new' (Kd.R_new' ho0 (Kd.R_lt (by (with_reducible repeat (first | apply Kd.R_alloc | apply Kd.R_drewN | apply Kd.R_drew)); exact HO_268000.out))) (Kd.R_lt (by (with_reducible repeat (first | apply Kd.R_alloc | apply Kd.R_drewN | apply Kd.R_drew)); exact HO_268001.out))) (Kd.R_lt (by (with_reducible repeat (first | apply Kd.R_alloc | apply Kd.R_drewN | apply Kd.R_drew)); exact HO_276000.out))) (Kd.R_lt (by (with_reducible repeat (first | apply Kd.R_alloc | apply Kd.R_drewN | apply Kd.R_drew)); exact HO_276001.out))) (Kd.R_lt (by (with_reducible repeat (first | apply Kd.R_alloc | apply Kd.R_drewN | apply Kd.R_drew)); exact HO_285000.out))) (Kd.R_lt (by (with_reducible repeat (first | apply Kd.R_alloc | apply Kd.R_drewN | apply Kd.R_drew)); exact HO_285001.out))) (below_size (by repeat (first | (with_reducible first | exact HB.out | apply below_alloc | apply pw_below_drewN | apply below_drew1 | refine below_set ?_ GE250.out | refine below_set ?_ GE267.out | refine below_set ?_ GE275.out | refine below_set ?_ GE284.out) | exact HB.out)))); have n7_ := Aside0.mk (Kd.R_lower (Kd.R_new' (Kd.R_new' (Kd.R_new' (Kd.R_new' (Kd.R_new' (Kd.R_new' ho1 (Kd.R_lt (by (with_reducible repeat (first | apply Kd.R_alloc | apply Kd.R_drewN | apply Kd.R_drew)); exact HO_268000.out))) (Kd.R_lt (by (with_reducible repeat (first | apply Kd.R_alloc | apply Kd.R_drewN | apply Kd.R_drew)); exact HO_268001.out))) (Kd.R_lt (by (with_reducible repeat (first | apply Kd.R_alloc | apply Kd.R_drewN | apply Kd.R_drew)); exact HO_276000.out))) (Kd.R_lt (by (with_reducible repeat (first | apply Kd.R_alloc | apply Kd.R_drewN | apply Kd.R_drew)); exact HO_276001.out))) (Kd.R_lt (by (with_reducible repeat (first | apply Kd.R_alloc | apply Kd.R_drewN | apply Kd.R_drew)); exact HO_285000.out))) (Kd.R_lt (by (with_reducible repeat (first | apply Kd.R_alloc | apply Kd.R_drewN | apply Kd.R_drew)); exact HO_285001.out))) (below_size (by repeat (first | (with_reducible first | exact HB.out | apply below_alloc | apply pw_below_drewN | apply below_drew1 | refine below_set ?_ GE250.out | refine below_set ?_ GE267.out | refine below_set ?_ GE275.out | refine below_set ?_ GE284.out) | exact HB.out)))); have n8_ := Aside0.mk (blk_below (g := gb250) (o := .cells #[.slice A0_0 l0_0.length c0_0, .slice A0_1 l0_1.length c0_1, .int .i64 a0_2] 24 (0, 0)) (by (with_reducible repeat (first | refine blk_drewN ?_ _ | refine blk_drew ?_ | refine blk_alloc ?_ _)); exact BK250.out) hb); have n9_ := Aside0.mk (blk_below (g := gb267) (o := .cells #[.slice Ao21 t259.length co21, .slice Ao24 t262.length co24, .int .i64 t265] 27 (0, 0)) (by (with_reducible repeat (first | refine blk_drewN ?_ _ | refine blk_drew ?_ | refine blk_alloc ?_ _)); exact BK267.out) hb); have n10_ := Aside0.mk (blk_below (g := gb275) (o := .cells #[.slice Ao28 t295.length co28, .slice Ao32 t296.length co32, .int .i64 t274] 27 (0, 0)) (by (with_reducible repeat (first | refine blk_drewN ?_ _ | refine blk_drew ?_ | refine blk_alloc ?_ _)); exact BK275.out) hb); have n11_ := Aside0.mk (blk_below (g := gb284) (o := .cells #[.slice Ao35 t276.length co35, .slice Ao40 t279.length co40, .int .i64 t282] 27 (0, 0)) (by (with_reducible repeat (first | refine blk_drewN ?_ _ | refine blk_drew ?_ | refine blk_alloc ?_ _)); exact BK284.out) hb); have n12_ := Aside0.mk (below_step (by repeat (first | (with_reducible first | exact HB.out | apply below_alloc | apply pw_below_drewN | apply below_drew1 | refine below_set ?_ GE250.out | refine below_set ?_ GE267.out | refine below_set ?_ GE275.out | refine below_set ?_ GE284.out) | exact HB.out)) hb); clear HO_268000; clear HO_268001; clear HO_276000; clear HO_276001; clear HO_285000; clear HO_285001; clear BK250; clear BK267; clear BK275; clear BK284; clear HB; have HO_268000 := n0_; have HO_268001 := n1_; have HO_276000 := n2_; have HO_276001 := n3_; have HO_285000 := n4_; have HO_285001 := n5_; have HO304 := n6_; have HO307 := n7_; have BK250 := n8_; have BK267 := n9_; have BK275 := n10_; have BK284 := n11_; have HB := n12_; clear n0_ n1_ n2_ n3_ n4_ n5_ n6_ n7_ n8_ n9_ n10_ n11_ n12_; (try clear hb); (try clear hb2); (try clear hk); (try clear hi); (try clear ho0); (try clear ho1); obtain ⟨Ao120, co120, eo120⟩ := Kd.R_slice HO304.out; subst eo120; obtain ⟨Ao121, co121, eo121⟩ := Kd.R_slice HO307.out; subst eo121) | ((with_reducible refine gate_callee (f := 18) rfl ?_); refine goesL_ (some 76) rfl rfl Try.func18 (by kernel_rfl) rfl #[.agg #[.slice Ao120 t302.length co120, .slice Ao121 t305.length co121, .int .i64 t308]] rfl (by (try simp only [List.map_toArray, List.map_cons, List.map_nil]); first | done | rfl | (simp only [List.length_drop, List.length_take]; rfl)) ?_; (with_reducible refine (impl_MirrorState.calls kj63 _ _ t302 _ _ t305 t308 t309 t312 t315 t316 _ ?side1 ?side2 ?side3 ?side4 A107.out).mono ?_); (case side1 => repeat (first | exact (Kd.R_reads' HO304.out).2.2 | (with_reducible refine Kd.C_alloc ?_ _) | (with_reducible refine Kd.C_drewN ?_ _) | (with_reducible refine Kd.C_drew ?_))); (case side2 => exact (Kd.R_reads' HO304.out).2.1); (case side3 => repeat (first | exact (Kd.R_reads' HO307.out).2.2 | (with_reducible refine Kd.C_alloc ?_ _) | (with_reducible refine Kd.C_drewN ?_ _) | (with_reducible refine Kd.C_drew ?_))); (case side4 => exact (Kd.R_reads' HO307.out).2.1); rintro e w122 ⟨v310, v313, rfl, ho0, ho1, hb⟩; refine ⟨_, rfl, ?_⟩; have n0_ := Aside0.mk (Kd.R_mono (Kd.R_told (Kd.R_told (Kd.R_old (by (with_reducible repeat (first | apply Kd.R_alloc | apply Kd.R_drewN | apply Kd.R_drew)); exact HO_268000.out) hb) (Kd.R_base ho0)) (Kd.R_base ho1)) (fun _ h_ => h_.1)); have n1_ := Aside0.mk (Kd.R_mono (Kd.R_told (Kd.R_told (Kd.R_old (by (with_reducible repeat (first | apply Kd.R_alloc | apply Kd.R_drewN | apply Kd.R_drew)); exact HO_268001.out) hb) (Kd.R_base ho0)) (Kd.R_base ho1)) (fun _ h_ => h_.1)); have n2_ := Aside0.mk (Kd.R_mono (Kd.R_told (Kd.R_told (Kd.R_old (by (with_reducible repeat (first | apply Kd.R_alloc | apply Kd.R_drewN | apply Kd.R_drew)); exact HO_276000.out) hb) (Kd.R_base ho0)) (Kd.R_base ho1)) (fun _ h_ => h_.1)); have n3_ := Aside0.mk (Kd.R_mono (Kd.R_told (Kd.R_told (Kd.R_old (by (with_reducible repeat (first | apply Kd.R_alloc | apply Kd.R_drewN | apply Kd.R_drew)); exact HO_276001.out) hb) (Kd.R_base ho0)) (Kd.R_base ho1)) (fun _ h_ => h_.1)); have n4_ := Aside0.mk (Kd.R_mono (Kd.R_told (Kd.R_told (Kd.R_old (by (with_reducible repeat (first | apply Kd.R_alloc | apply Kd.R_drewN | apply Kd.R_drew)); exact HO_285000.out) hb) (Kd.R_base ho0)) (Kd.R_base ho1)) (fun _ h_ => h_.1)); have n5_ := Aside0.mk (Kd.R_mono (Kd.R_told (Kd.R_told (Kd.R_old (by (with_reducible repeat (first | apply Kd.R_alloc | apply Kd.R_drewN | apply Kd.R_drew)); exact HO_285001.out) hb) (Kd.R_base ho0)) (Kd.R_base ho1)) (fun _ h_ => h_.1)); have n6_ := Aside0.mk (Kd.R_mono (Kd.R_told (Kd.R_told (Kd.R_old (by (with_reducible repeat (first | apply Kd.R_alloc | apply Kd.R_drewN | apply Kd.R_drew)); exact HO304.out) hb) (Kd.R_base ho0)) (Kd.R_base ho1)) (fun _ h_ => h_.1)); have n7_ := Aside0.mk (Kd.R_mono (Kd.R_told (Kd.R_told (Kd.R_old (by (with_reducible repeat (first | apply Kd.R_alloc | apply Kd.R_drewN | apply Kd.R_drew)); exact HO307.out) hb) (Kd.R_base ho0)) (Kd.R_base ho1)) (fun _ h_ => h_.1)); have n8_ := Aside0.mk (Kd.R_lower (Kd.R_new' (Kd.R_new' (Kd.R_new' (Kd.R_new' (Kd.R_new' (Kd.R_new' (Kd.R_new' (Kd.R_new' ho0 (Kd.R_lt (by (with_reducible repeat (first | apply Kd.R_alloc | apply Kd.R_drewN | apply Kd.R_drew)); exact HO_268000.out))) (Kd.R_lt (by (with_reducible repeat (first | apply Kd.R_alloc | apply Kd.R_drewN | apply Kd.R_drew)); exact HO_268001.out))) (Kd.R_lt (by (with_reducible repeat (first | apply Kd.R_alloc | apply Kd.R_drewN | apply Kd.R_drew)); exact HO_276000.out))) (Kd.R_lt (by (with_reducible repeat (first | apply Kd.R_alloc | apply Kd.R_drewN | apply Kd.R_drew)); exact HO_276001.out))) (Kd.R_lt (by (with_reducible repeat (first | apply Kd.R_alloc | apply Kd.R_drewN | apply Kd.R_drew)); exact HO_285000.out))) (Kd.R_lt (by (with_reducible repeat (first | apply Kd.R_alloc | apply Kd.R_drewN | apply Kd.R_drew)); exact HO_285001.out))) (Kd.R_lt (by (with_reducible repeat (first | apply Kd.R_alloc | apply Kd.R_drewN | apply Kd.R_drew)); exact HO304.out))) (Kd.R_lt (by (with_reducible repeat (first | apply Kd.R_alloc | apply Kd.R_drewN | apply Kd.R_drew)); exact HO307.out))) (below_size (by repeat (first | (with_reducible first | exact HB.out | apply below_alloc | apply pw_below_drewN | apply below_drew1 | refine below_set ?_ GE250.out | refine below_set ?_ GE267.out | refine below_set ?_ GE275.out | refine below_set ?_ GE284.out) | exact HB.out)))); have n9_ := Aside0.mk (Kd.R_lower (Kd.R_new' (Kd.R_new' (Kd.R_new' (Kd.R_new' (Kd.R_new' (Kd.R_new' (Kd.R_new' (Kd.R_new' ho1 (Kd.R_lt (by (with_reducible repeat (first | apply Kd.R_alloc | apply Kd.R_drewN | apply Kd.R_drew)); exact HO_268000.out))) (Kd.R_lt (by (with_reducible repeat (first | apply Kd.R_alloc | apply Kd.R_drewN | apply Kd.R_drew)); exact HO_268001.out))) (Kd.R_lt (by (with_reducible repeat (first | apply Kd.R_alloc | apply Kd.R_drewN | apply Kd.R_drew)); exact HO_276000.out))) (Kd.R_lt (by (with_reducible repeat (first | apply Kd.R_alloc | apply Kd.R_drewN | apply Kd.R_drew)); exact HO_276001.out))) (Kd.R_lt (by (with_reducible repeat (first | apply Kd.R_alloc | apply Kd.R_drewN | apply Kd.R_drew)); exact HO_285000.out))) (Kd.R_lt (by (with_reducible repeat (first | apply Kd.R_alloc | apply Kd.R_drewN | apply Kd.R_drew)); exact HO_285001.out))) (Kd.R_lt (by (with_reducible repeat (first | apply Kd.R_alloc | apply Kd.R_drewN | apply Kd.R_drew)); exact HO304.out))) (Kd.R_lt (by (with_reducible repeat (first | apply Kd.R_alloc | apply Kd.R_drewN | apply Kd.R_drew)); exact HO307.out))) (below_size (by repeat (first | (with_reducible first | exact HB.out | apply below_alloc | apply pw_below_drewN | apply below_drew1 | refine below_set ?_ GE250.out | refine below_set ?_ GE267.out | refine below_set ?_ GE275.out | refine below_set ?_ GE284.out) | exact HB.out)))); have n10_ := Aside0.mk (blk_below (g := gb250) (o := .cells #[.slice A0_0 l0_0.length c0_0, .slice A0_1 l0_1.length c0_1, .int .i64 a0_2] 24 (0, 0)) (by (with_reducible repeat (first | refine blk_drewN ?_ _ | refine blk_drew ?_ | refine blk_alloc ?_ _)); exact BK250.out) hb); have n11_ := Aside0.mk (blk_below (g := gb267) (o := .cells #[.slice Ao21 t259.length co21, .slice Ao24 t262.length co24, .int .i64 t265] 27 (0, 0)) (by (with_reducible repeat (first | refine blk_drewN ?_ _ | refine blk_drew ?_ | refine blk_alloc ?_ _)); exact BK267.out) hb); have n12_ := Aside0.mk (blk_below (g := gb275) (o := .cells #[.slice Ao28 t295.length co28, .slice Ao32 t296.length co32, .int .i64 t274] 27 (0, 0)) (by (with_reducible repeat (first | refine blk_drewN ?_ _ | refine blk_drew ?_ | refine blk_alloc ?_ _)); exact BK275.out) hb); have n13_ := Aside0.mk (blk_below (g := gb284) (o := .cells #[.slice Ao35 t276.length co35, .slice Ao40 t279.length co40, .int .i64 t282] 27 (0, 0)) (by (with_reducible repeat (first | refine blk_drewN ?_ _ | refine blk_drew ?_ | refine blk_alloc ?_ _)); exact BK284.out) hb); have n14_ := Aside0.mk (below_step (by repeat (first | (with_reducible first | exact HB.out | apply below_alloc | apply pw_below_drewN | apply below_drew1 | refine below_set ?_ GE250.out | refine below_set ?_ GE267.out | refine below_set ?_ GE275.out | refine below_set ?_ GE284.out) | exact HB.out)) hb); clear HO_268000; clear HO_268001; clear HO_276000; clear HO_276001; clear HO_285000; clear HO_285001; clear HO304; clear HO307; clear BK250; clear BK267; clear BK275; clear BK284; clear HB; have HO_268000 := n0_; have HO_268001 := n1_; have HO_276000 := n2_; have HO_276001 := n3_; have HO_285000 := n4_; have HO_285001 := n5_; have HO304 := n6_; have HO307 := n7_; have HO311 := n8_; have HO314 := n9_; have BK250 := n10_; have BK267 := n11_; have BK275 := n12_; have BK284 := n13_; have HB := n14_; clear n0_ n1_ n2_ n3_ n4_ n5_ n6_ n7_ n8_ n9_ n10_ n11_ n12_ n13_ n14_; (try clear hb); (try clear hb2); (try clear hk); (try clear hi); (try clear ho0); (try clear ho1)) | ((with_reducible refine gate_dst (N := 12) rfl ?_); refine box_event ?hg (N := 12) ?hd (cs := #[.slice none 0 0, .slice none 0 0, .int .i64 0]) (t := 27) ?hr ?_; (case hd => rfl); (case hg => rfl); (case hr => first | (go_simp; done) | (go_simp; rfl)); intro gb317 hg w123 hbox hb; have n0_ := Aside0.mk (Kd.R_below (by (with_reducible repeat (first | apply Kd.R_alloc | apply Kd.R_drewN | apply Kd.R_drew)); exact HO_268000.out) hb); have n1_ := Aside0.mk (Kd.R_below (by (with_reducible repeat (first | apply Kd.R_alloc | apply Kd.R_drewN | apply Kd.R_drew)); exact HO_268001.out) hb); have n2_ := Aside0.mk (Kd.R_below (by (with_reducible repeat (first | apply Kd.R_alloc | apply Kd.R_drewN | apply Kd.R_drew)); exact HO_276000.out) hb); have n3_ := Aside0.mk (Kd.R_below (by (with_reducible repeat (first | apply Kd.R_alloc | apply Kd.R_drewN | apply Kd.R_drew)); exact HO_276001.out) hb); have n4_ := Aside0.mk (Kd.R_below (by (with_reducible repeat (first | apply Kd.R_alloc | apply Kd.R_drewN | apply Kd.R_drew)); exact HO_285000.out) hb); have n5_ := Aside0.mk (Kd.R_below (by (with_reducible repeat (first | apply Kd.R_alloc | apply Kd.R_drewN | apply Kd.R_drew)); exact HO_285001.out) hb); have n6_ := Aside0.mk (Kd.R_below (by (with_reducible repeat (first | apply Kd.R_alloc | apply Kd.R_drewN | apply Kd.R_drew)); exact HO304.out) hb); have n7_ := Aside0.mk (Kd.R_below (by (with_reducible repeat (first | apply Kd.R_alloc | apply Kd.R_drewN | apply Kd.R_drew)); exact HO307.out) hb); have n8_ := Aside0.mk (Kd.R_below (by (with_reducible repeat (first | apply Kd.R_alloc | apply Kd.R_drewN | apply Kd.R_drew)); exact HO311.out) hb); have n9_ := Aside0.mk (Kd.R_below (by (with_reducible repeat (first | apply Kd.R_alloc | apply Kd.R_drewN | apply Kd.R_drew)); exact HO314.out) hb); have n10_ := Aside0.mk (blk_below (g := gb250) (o := .cells #[.slice A0_0 l0_0.length c0_0, .slice A0_1 l0_1.length c0_1, .int .i64 a0_2] 24 (0, 0)) (by (with_reducible repeat (first | refine blk_drewN ?_ _ | refine blk_drew ?_ | refine blk_alloc ?_ _)); exact BK250.out) hb); have n11_ := Aside0.mk (blk_below (g := gb267) (o := .cells #[.slice Ao21 t259.length co21, .slice Ao24 t262.length co24, .int .i64 t265] 27 (0, 0)) (by (with_reducible repeat (first | refine blk_drewN ?_ _ | refine blk_drew ?_ | refine blk_alloc ?_ _)); exact BK267.out) hb); have n12_ := Aside0.mk (blk_below (g := gb275) (o := .cells #[.slice Ao28 t295.length co28, .slice Ao32 t296.length co32, .int .i64 t274] 27 (0, 0)) (by (with_reducible repeat (first | refine blk_drewN ?_ _ | refine blk_drew ?_ | refine blk_alloc ?_ _)); exact BK275.out) hb); have n13_ := Aside0.mk (blk_below (g := gb284) (o := .cells #[.slice Ao35 t276.length co35, .slice Ao40 t279.length co40, .int .i64 t282] 27 (0, 0)) (by (with_reducible repeat (first | refine blk_drewN ?_ _ | refine blk_drew ?_ | refine blk_alloc ?_ _)); exact BK284.out) hb); have n14_ := Aside0.mk (below_step (by repeat (first | (with_reducible first | exact HB.out | apply below_alloc | apply pw_below_drewN | apply below_drew1 | refine below_set ?_ GE250.out | refine below_set ?_ GE267.out | refine below_set ?_ GE275.out | refine below_set ?_ GE284.out) | exact HB.out)) hb); have n15_ := Aside0.mk (hbox); have n16_ := Aside0.mk ((by rw [hg]; exact (below_size (by repeat (first | (with_reducible first | exact HB.out | apply below_alloc | apply pw_below_drewN | apply below_drew1 | refine below_set ?_ GE250.out | refine below_set ?_ GE267.out | refine below_set ?_ GE275.out | refine below_set ?_ GE284.out) | exact HB.out))) : w.heap.size ≤ gb317)); have n17_ := Aside0.mk ((by rw [hg]; exact (below_size (by repeat (first | (with_reducible first | exact HB.out | apply below_alloc | apply pw_below_drewN | apply below_drew1 | refine below_set ?_ GE250.out | refine below_set ?_ GE267.out | refine below_set ?_ GE275.out | refine below_set ?_ GE284.out) | exact HB.out))) : w.heap.size ≤ gb317)); have n18_ := Aside0.mk ((by rw [hg]; exact Nat.ne_of_lt (blk_lt (g := gb250) (o := .cells #[.slice A0_0 l0_0.length c0_0, .slice A0_1 l0_1.length c0_1, .int .i64 a0_2] 24 (0, 0)) (by (with_reducible repeat (first | refine blk_drewN ?_ _ | refine blk_drew ?_ | refine blk_alloc ?_ _)); exact BK250.out)) : gb250 ≠ gb317)); have n19_ := Aside0.mk ((by rw [hg]; exact Nat.ne_of_gt (blk_lt (g := gb250) (o := .cells #[.slice A0_0 l0_0.length c0_0, .slice A0_1 l0_1.length c0_1, .int .i64 a0_2] 24 (0, 0)) (by (with_reducible repeat (first | refine blk_drewN ?_ _ | refine blk_drew ?_ | refine blk_alloc ?_ _)); exact BK250.out)) : gb317 ≠ gb250)); have n20_ := Aside0.mk ((by rw [hg]; exact Nat.ne_of_lt (blk_lt (g := gb267) (o := .cells #[.slice Ao21 t259.length co21, .slice Ao24 t262.length co24, .int .i64 t265] 27 (0, 0)) (by (with_reducible repeat (first | refine blk_drewN ?_ _ | refine blk_drew ?_ | refine blk_alloc ?_ _)); exact BK267.out)) : gb267 ≠ gb317)); have n21_ := Aside0.mk ((by rw [hg]; exact Nat.ne_of_gt (blk_lt (g := gb267) (o := .cells #[.slice Ao21 t259.length co21, .slice Ao24 t262.length co24, .int .i64 t265] 27 (0, 0)) (by (with_reducible repeat (first | refine blk_drewN ?_ _ | refine blk_drew ?_ | refine blk_alloc ?_ _)); exact BK267.out)) : gb317 ≠ gb267)); have n22_ := Aside0.mk ((by rw [hg]; exact Nat.ne_of_lt (blk_lt (g := gb275) (o := .cells #[.slice Ao28 t295.length co28, .slice Ao32 t296.length co32, .int .i64 t274] 27 (0, 0)) (by (with_reducible repeat (first | refine blk_drewN ?_ _ | refine blk_drew ?_ | refine blk_alloc ?_ _)); exact BK275.out)) : gb275 ≠ gb317)); have n23_ := Aside0.mk ((by rw [hg]; exact Nat.ne_of_gt (blk_lt (g := gb275) (o := .cells #[.slice Ao28 t295.length co28, .slice Ao32 t296.length co32, .int .i64 t274] 27 (0, 0)) (by (with_reducible repeat (first | refine blk_drewN ?_ _ | refine blk_drew ?_ | refine blk_alloc ?_ _)); exact BK275.out)) : gb317 ≠ gb275)); have n24_ := Aside0.mk ((by rw [hg]; exact Nat.ne_of_lt (blk_lt (g := gb284) (o := .cells #[.slice Ao35 t276.length co35, .slice Ao40 t279.length co40, .int .i64 t282] 27 (0, 0)) (by (with_reducible repeat (first | refine blk_drewN ?_ _ | refine blk_drew ?_ | refine blk_alloc ?_ _)); exact BK284.out)) : gb284 ≠ gb317)); have n25_ := Aside0.mk ((by rw [hg]; exact Nat.ne_of_gt (blk_lt (g := gb284) (o := .cells #[.slice Ao35 t276.length co35, .slice Ao40 t279.length co40, .int .i64 t282] 27 (0, 0)) (by (with_reducible repeat (first | refine blk_drewN ?_ _ | refine blk_drew ?_ | refine blk_alloc ?_ _)); exact BK284.out)) : gb317 ≠ gb284)); clear HO_268000; clear HO_268001; clear HO_276000; clear HO_276001; clear HO_285000; clear HO_285001; clear HO304; clear HO307; clear HO311; clear HO314; clear BK250; clear BK267; clear BK275; clear BK284; clear HB; have HO_268000 := n0_; have HO_268001 := n1_; have HO_276000 := n2_; have HO_276001 := n3_; have HO_285000 := n4_; have HO_285001 := n5_; have HO304 := n6_; have HO307 := n7_; have HO311 := n8_; have HO314 := n9_; have BK250 := n10_; have BK267 := n11_; have BK275 := n12_; have BK284 := n13_; have HB := n14_; have BK317 := n15_; have GW317 := n16_; have GE317 := n17_; have NB250_317 := n18_; have NB317_250 := n19_; have NB267_317 := n20_; have NB317_267 := n21_; have NB275_317 := n22_; have NB317_275 := n23_; have NB284_317 := n24_; have NB317_284 := n25_; clear n0_ n1_ n2_ n3_ n4_ n5_ n6_ n7_ n8_ n9_ n10_ n11_ n12_ n13_ n14_ n15_ n16_ n17_ n18_ n19_ n20_ n21_ n22_ n23_ n24_ n25_; clear hb hbox hg; obtain ⟨Ao124, co124, eo124⟩ := Kd.R_slice HO311.out; subst eo124; have hnb125 := NB317_250.out; have hnc125 := NB250_317.out; have hnb126 := NB317_267.out; have hnc126 := NB267_317.out; have hnb127 := NB317_275.out; have hnc127 := NB275_317.out; have hnb128 := NB317_284.out; have hnc128 := NB284_317.out; have hcz129_0 : w123.cell? ⟨gb317, 0, none⟩ = some (.slice none 0 0) := (blk_cell BK317.out 0).trans rfl; have hcz129_1 : w123.cell? ⟨gb317, 1, none⟩ = some (.slice none 0 0) := (blk_cell BK317.out 1).trans rfl; have hcz129_2 : w123.cell? ⟨gb317, 2, none⟩ = some (.int .i64 0) := (blk_cell BK317.out 2).trans rfl; have hfz129_0 := blk_frozen BK317.out 0; have hfz129_1 := blk_frozen BK317.out 1; have hfz129_2 := blk_frozen BK317.out 2; obtain ⟨Ao130, co130, eo130⟩ := Kd.R_slice HO314.out; subst eo130))
                      (try simp only [Act.put, List.setIfInBounds_toArray, List.set_cons_zero, List.set_cons_succ])
                      go_cut [87] (fun v87 wc => ∃ (kq : Nat) (x87_107 : Bool), v87 = .bool x87_107 ∧ Aside0 (laws_FnExactMirrorState.j2 kq t298 x87_107 t299 t300 t282 = some r) ∧ Aside0 (kq ≤ kj63) ∧ Aside0 (Kd.R (Kd.int .i64) 3 wc w.heap.size (fun k_ => some k_ ≠ ((.slice Ao24 t262.length co24) : Value).ownBlock ∧ some k_ ≠ ((.slice Ao28 t295.length co28) : Value).ownBlock ∧ some k_ ≠ ((.slice Ao32 t296.length co32) : Value).ownBlock ∧ some k_ ≠ ((.slice Ao35 t276.length co35) : Value).ownBlock ∧ some k_ ≠ ((.slice Ao40 t279.length co40) : Value).ownBlock ∧ some k_ ≠ ((.slice Ao124 t309.length co124) : Value).ownBlock ∧ some k_ ≠ ((.slice Ao130 t312.length co130) : Value).ownBlock) (.slice Ao21 t259.length co21) t259) ∧ Aside0 (Kd.R (Kd.int .i64) 3 wc w.heap.size (fun k_ => some k_ ≠ ((.slice Ao21 t259.length co21) : Value).ownBlock ∧ some k_ ≠ ((.slice Ao28 t295.length co28) : Value).ownBlock ∧ some k_ ≠ ((.slice Ao32 t296.length co32) : Value).ownBlock ∧ some k_ ≠ ((.slice Ao35 t276.length co35) : Value).ownBlock ∧ some k_ ≠ ((.slice Ao40 t279.length co40) : Value).ownBlock ∧ some k_ ≠ ((.slice Ao124 t309.length co124) : Value).ownBlock ∧ some k_ ≠ ((.slice Ao130 t312.length co130) : Value).ownBlock) (.slice Ao24 t262.length co24) t262) ∧ Aside0 (Kd.R (Kd.int .i64) 3 wc w.heap.size (fun k_ => some k_ ≠ ((.slice Ao21 t259.length co21) : Value).ownBlock ∧ some k_ ≠ ((.slice Ao24 t262.length co24) : Value).ownBlock ∧ some k_ ≠ ((.slice Ao32 t296.length co32) : Value).ownBlock ∧ some k_ ≠ ((.slice Ao35 t276.length co35) : Value).ownBlock ∧ some k_ ≠ ((.slice Ao40 t279.length co40) : Value).ownBlock ∧ some k_ ≠ ((.slice Ao124 t309.length co124) : Value).ownBlock ∧ some k_ ≠ ((.slice Ao130 t312.length co130) : Value).ownBlock) (.slice Ao28 t295.length co28) t295) ∧ Aside0 (Kd.R (Kd.int .i64) 3 wc w.heap.size (fun k_ => some k_ ≠ ((.slice Ao21 t259.length co21) : Value).ownBlock ∧ some k_ ≠ ((.slice Ao24 t262.length co24) : Value).ownBlock ∧ some k_ ≠ ((.slice Ao28 t295.length co28) : Value).ownBlock ∧ some k_ ≠ ((.slice Ao35 t276.length co35) : Value).ownBlock ∧ some k_ ≠ ((.slice Ao40 t279.length co40) : Value).ownBlock ∧ some k_ ≠ ((.slice Ao124 t309.length co124) : Value).ownBlock ∧ some k_ ≠ ((.slice Ao130 t312.length co130) : Value).ownBlock) (.slice Ao32 t296.length co32) t296) ∧ Aside0 (Kd.R (Kd.int .i64) 3 wc w.heap.size (fun k_ => some k_ ≠ ((.slice Ao21 t259.length co21) : Value).ownBlock ∧ some k_ ≠ ((.slice Ao24 t262.length co24) : Value).ownBlock ∧ some k_ ≠ ((.slice Ao28 t295.length co28) : Value).ownBlock ∧ some k_ ≠ ((.slice Ao32 t296.length co32) : Value).ownBlock ∧ some k_ ≠ ((.slice Ao40 t279.length co40) : Value).ownBlock ∧ some k_ ≠ ((.slice Ao124 t309.length co124) : Value).ownBlock ∧ some k_ ≠ ((.slice Ao130 t312.length co130) : Value).ownBlock) (.slice Ao35 t276.length co35) t299) ∧ Aside0 (Kd.R (Kd.int .i64) 3 wc w.heap.size (fun k_ => some k_ ≠ ((.slice Ao21 t259.length co21) : Value).ownBlock ∧ some k_ ≠ ((.slice Ao24 t262.length co24) : Value).ownBlock ∧ some k_ ≠ ((.slice Ao28 t295.length co28) : Value).ownBlock ∧ some k_ ≠ ((.slice Ao32 t296.length co32) : Value).ownBlock ∧ some k_ ≠ ((.slice Ao35 t276.length co35) : Value).ownBlock ∧ some k_ ≠ ((.slice Ao124 t309.length co124) : Value).ownBlock ∧ some k_ ≠ ((.slice Ao130 t312.length co130) : Value).ownBlock) (.slice Ao40 t279.length co40) t300) ∧ Aside0 (Kd.R (Kd.int .i64) 3 wc w.heap.size (fun k_ => some k_ ≠ ((.slice Ao21 t259.length co21) : Value).ownBlock ∧ some k_ ≠ ((.slice Ao24 t262.length co24) : Value).ownBlock ∧ some k_ ≠ ((.slice Ao28 t295.length co28) : Value).ownBlock ∧ some k_ ≠ ((.slice Ao32 t296.length co32) : Value).ownBlock ∧ some k_ ≠ ((.slice Ao35 t276.length co35) : Value).ownBlock ∧ some k_ ≠ ((.slice Ao40 t279.length co40) : Value).ownBlock ∧ some k_ ≠ ((.slice Ao130 t312.length co130) : Value).ownBlock) (.slice Ao124 t309.length co124) t309) ∧ Aside0 (Kd.R (Kd.int .i64) 3 wc w.heap.size (fun k_ => some k_ ≠ ((.slice Ao21 t259.length co21) : Value).ownBlock ∧ some k_ ≠ ((.slice Ao24 t262.length co24) : Value).ownBlock ∧ some k_ ≠ ((.slice Ao28 t295.length co28) : Value).ownBlock ∧ some k_ ≠ ((.slice Ao32 t296.length co32) : Value).ownBlock ∧ some k_ ≠ ((.slice Ao35 t276.length co35) : Value).ownBlock ∧ some k_ ≠ ((.slice Ao40 t279.length co40) : Value).ownBlock ∧ some k_ ≠ ((.slice Ao124 t309.length co124) : Value).ownBlock) (.slice Ao130 t312.length co130) t312) ∧ Aside0 (wc.heap[gb250]? = some (.cells #[(.slice A0_0 l0_0.length c0_0), (.slice A0_1 l0_1.length c0_1), .int .i64 a0_2] 24 (0, 0))) ∧ Aside0 (wc.heap[gb267]? = some (.cells #[(.slice Ao21 t259.length co21), (.slice Ao24 t262.length co24), .int .i64 t265] 27 (0, 0))) ∧ Aside0 (wc.heap[gb275]? = some (.cells #[(.slice Ao28 t295.length co28), (.slice Ao32 t296.length co32), .int .i64 t274] 27 (0, 0))) ∧ Aside0 (wc.heap[gb284]? = some (.cells #[(.slice Ao35 t276.length co35), (.slice Ao40 t279.length co40), .int .i64 t282] 27 (0, 0))) ∧ Aside0 (wc.heap[gb317]? = some (.cells #[(.slice Ao124 t309.length co124), (.slice Ao130 t312.length co130), .int .i64 t315] 27 (0, 0))) ∧ Aside0 (Below w.heap.size w wc))
                      case first =>
                        have H := HC108.out
                        clear HC108
                        replace H := Option.bind_eq_some_iff.mp H
                        obtain ⟨t318, A1310, H⟩ := H
                        replace H : (if t318 = true then (laws_FnExactMirrorState.j2 kj63 t298 (t316 != t266) t299 t300 t282) else (laws_FnExactMirrorState.j2 kj63 t298 true t299 t300 t282)) = some r := H
                        have A131 := Aside0.mk A1310
                        clear A1310
                        by_cases c132 : t318 = true
                        · subst c132
                          have H1 : (laws_FnExactMirrorState.j2 kj63 t298 (t316 != t266) t299 t300 t282) = some r := by rw [if_pos rfl] at H; exact H
                          clear H
                          have H := H1
                          clear H1
                          have H' := Aside0.mk H
                          clear H
                          have hnb133 := NB317_250.out
                          have hnc133 := NB250_317.out
                          have hnb134 := NB317_267.out
                          have hnc134 := NB267_317.out
                          have hnb135 := NB317_275.out
                          have hnc135 := NB275_317.out
                          have hnb136 := NB317_284.out
                          have hnc136 := NB284_317.out
                          have hcz137_0 : w123.cell? ⟨gb317, 0, none⟩ = some (.slice none 0 0) := (blk_cell BK317.out 0).trans rfl
                          have hcz137_1 : w123.cell? ⟨gb317, 1, none⟩ = some (.slice none 0 0) := (blk_cell BK317.out 1).trans rfl
                          have hcz137_2 : w123.cell? ⟨gb317, 2, none⟩ = some (.int .i64 0) := (blk_cell BK317.out 2).trans rfl
                          have hfz137_0 := blk_frozen BK317.out 0
                          have hfz137_1 := blk_frozen BK317.out 1
                          have hfz137_2 := blk_frozen BK317.out 2
                          have hnb138 := NB267_250.out
                          have hnc138 := NB250_267.out
                          have hnb139 := NB267_275.out
                          have hnc139 := NB275_267.out
                          have hnb140 := NB267_284.out
                          have hnc140 := NB284_267.out
                          have hcz141_0 : w123.cell? ⟨gb267, 0, none⟩ = some (.slice Ao21 t259.length co21) := (blk_cell BK267.out 0).trans rfl
                          have hcz141_1 : w123.cell? ⟨gb267, 1, none⟩ = some (.slice Ao24 t262.length co24) := (blk_cell BK267.out 1).trans rfl
                          have hcz141_2 : w123.cell? ⟨gb267, 2, none⟩ = some (.int .i64 t265) := (blk_cell BK267.out 2).trans rfl
                          have hfz141_0 := blk_frozen BK267.out 0
                          have hfz141_1 := blk_frozen BK267.out 1
                          have hfz141_2 := blk_frozen BK267.out 2
                          go_wp2_with (first | ((with_reducible refine gate_callee (f := 14) rfl ?_); refine goesL_ (some 81) rfl rfl Try.func14 (by kernel_rfl) rfl #[.agg #[.slice Ao124 t309.length co124, .slice Ao130 t312.length co130, .int .i64 t315], .agg #[.slice Ao21 t259.length co21, .slice Ao24 t262.length co24, .int .i64 t265]] rfl (by (try simp only [List.map_toArray, List.map_cons, List.map_nil]); first | done | rfl | (simp only [List.length_drop, List.length_take]; rfl)) ?_; (with_reducible refine (laws_eqState.calls kj63 _ _ t309 _ _ t312 t315 _ _ t259 _ _ t262 t265 true _ ?side1 ?side2 ?side3 ?side4 ?side5 ?side6 ?side7 ?side8 A131.out).mono ?_); (case side1 => refine (Kd.R_reads' (e := 3) (base := w.heap.size) (ok := fun k_ => ((((((((some k_ ≠ (.slice Ao130 t312.length co130 : Value).ownBlock ∧ some k_ ≠ (.slice Ao21 t259.length co21 : Value).ownBlock) ∧ some k_ ≠ (.slice Ao24 t262.length co24 : Value).ownBlock) ∧ some k_ ≠ (.slice Ao28 t295.length co28 : Value).ownBlock) ∧ some k_ ≠ (.slice Ao32 t296.length co32 : Value).ownBlock) ∧ some k_ ≠ (.slice Ao35 t276.length co35 : Value).ownBlock) ∧ some k_ ≠ (.slice Ao40 t279.length co40 : Value).ownBlock) ∧ some k_ ≠ (.slice Ao120 t302.length co120 : Value).ownBlock) ∧ some k_ ≠ (.slice Ao121 t305.length co121 : Value).ownBlock)) (n := t309.length) (c := co124) ?_).2.2; exact (by (with_reducible repeat (first | apply Kd.R_alloc | apply Kd.R_drewN | apply Kd.R_drew)); exact (Kd.R_mono (Kd.R_far (p := ⟨gb317, 2, none⟩) (Kd.R_far (p := ⟨gb317, 1, none⟩) (Kd.R_far (p := ⟨gb317, 0, none⟩) (Kd.R_types HO311.out BK317.out (by decide)) (fun _ hk => hk.2) (.slice Ao124 t309.length co124)) (fun _ hk => hk.2) (.slice Ao130 t312.length co130)) (fun _ hk => hk.2) (.int .i64 t315)) (fun _ h_ => h_.1)))); (case side2 => exact (Kd.R_reads' HO311.out).2.1); (case side3 => refine (Kd.R_reads' (e := 3) (base := w.heap.size) (ok := fun k_ => ((((((((some k_ ≠ (.slice Ao124 t309.length co124 : Value).ownBlock ∧ some k_ ≠ (.slice Ao21 t259.length co21 : Value).ownBlock) ∧ some k_ ≠ (.slice Ao24 t262.length co24 : Value).ownBlock) ∧ some k_ ≠ (.slice Ao28 t295.length co28 : Value).ownBlock) ∧ some k_ ≠ (.slice Ao32 t296.length co32 : Value).ownBlock) ∧ some k_ ≠ (.slice Ao35 t276.length co35 : Value).ownBlock) ∧ some k_ ≠ (.slice Ao40 t279.length co40 : Value).ownBlock) ∧ some k_ ≠ (.slice Ao120 t302.length co120 : Value).ownBlock) ∧ some k_ ≠ (.slice Ao121 t305.length co121 : Value).ownBlock)) (n := t312.length) (c := co130) ?_).2.2; exact (by (with_reducible repeat (first | apply Kd.R_alloc | apply Kd.R_drewN | apply Kd.R_drew)); exact (Kd.R_mono (Kd.R_far (p := ⟨gb317, 2, none⟩) (Kd.R_far (p := ⟨gb317, 1, none⟩) (Kd.R_far (p := ⟨gb317, 0, none⟩) (Kd.R_types HO314.out BK317.out (by decide)) (fun _ hk => hk.2) (.slice Ao124 t309.length co124)) (fun _ hk => hk.2) (.slice Ao130 t312.length co130)) (fun _ hk => hk.2) (.int .i64 t315)) (fun _ h_ => h_.1)))); (case side4 => exact (Kd.R_reads' HO314.out).2.1); (case side5 => refine (Kd.R_reads' (e := 3) (base := w.heap.size) (ok := fun k_ => (((((some k_ ≠ (.slice Ao24 t262.length co24 : Value).ownBlock ∧ (some k_ ≠ (.slice Ao28 t295.length co28 : Value).ownBlock ∧ (some k_ ≠ (.slice Ao32 t296.length co32 : Value).ownBlock ∧ (some k_ ≠ (.slice Ao35 t276.length co35 : Value).ownBlock ∧ some k_ ≠ (.slice Ao40 t279.length co40 : Value).ownBlock)))) ∧ some k_ ≠ (.slice Ao120 t302.length co120 : Value).ownBlock) ∧ some k_ ≠ (.slice Ao121 t305.length co121 : Value).ownBlock) ∧ some k_ ≠ (.slice Ao124 t309.length co124 : Value).ownBlock) ∧ some k_ ≠ (.slice Ao130 t312.length co130 : Value).ownBlock)) (n := t259.length) (c := co21) ?_).2.2; exact (by (with_reducible repeat (first | apply Kd.R_alloc | apply Kd.R_drewN | apply Kd.R_drew)); exact (Kd.R_mono (Kd.R_far (p := ⟨gb317, 2, none⟩) (Kd.R_far (p := ⟨gb317, 1, none⟩) (Kd.R_far (p := ⟨gb317, 0, none⟩) (Kd.R_types HO_268000.out BK317.out (by decide)) (fun _ hk => hk.2) (.slice Ao124 t309.length co124)) (fun _ hk => hk.2) (.slice Ao130 t312.length co130)) (fun _ hk => hk.2) (.int .i64 t315)) (fun _ h_ => h_.1)))); (case side6 => exact (Kd.R_reads' HO_268000.out).2.1); (case side7 => refine (Kd.R_reads' (e := 3) (base := w.heap.size) (ok := fun k_ => (((((some k_ ≠ (.slice Ao21 t259.length co21 : Value).ownBlock ∧ (some k_ ≠ (.slice Ao28 t295.length co28 : Value).ownBlock ∧ (some k_ ≠ (.slice Ao32 t296.length co32 : Value).ownBlock ∧ (some k_ ≠ (.slice Ao35 t276.length co35 : Value).ownBlock ∧ some k_ ≠ (.slice Ao40 t279.length co40 : Value).ownBlock)))) ∧ some k_ ≠ (.slice Ao120 t302.length co120 : Value).ownBlock) ∧ some k_ ≠ (.slice Ao121 t305.length co121 : Value).ownBlock) ∧ some k_ ≠ (.slice Ao124 t309.length co124 : Value).ownBlock) ∧ some k_ ≠ (.slice Ao130 t312.length co130 : Value).ownBlock)) (n := t262.length) (c := co24) ?_).2.2; exact (by (with_reducible repeat (first | apply Kd.R_alloc | apply Kd.R_drewN | apply Kd.R_drew)); exact (Kd.R_mono (Kd.R_far (p := ⟨gb317, 2, none⟩) (Kd.R_far (p := ⟨gb317, 1, none⟩) (Kd.R_far (p := ⟨gb317, 0, none⟩) (Kd.R_types HO_268001.out BK317.out (by decide)) (fun _ hk => hk.2) (.slice Ao124 t309.length co124)) (fun _ hk => hk.2) (.slice Ao130 t312.length co130)) (fun _ hk => hk.2) (.int .i64 t315)) (fun _ h_ => h_.1)))); (case side8 => exact (Kd.R_reads' HO_268001.out).2.1); rintro e w142 ⟨rfl, hb⟩; refine ⟨_, rfl, ?_⟩; have n0_ := Aside0.mk (Kd.R_below (by (with_reducible repeat (first | apply Kd.R_alloc | apply Kd.R_drewN | apply Kd.R_drew)); exact (Kd.R_mono (Kd.R_far (p := ⟨gb317, 2, none⟩) (Kd.R_far (p := ⟨gb317, 1, none⟩) (Kd.R_far (p := ⟨gb317, 0, none⟩) (Kd.R_types HO_268000.out BK317.out (by decide)) (fun _ hk => hk.2) (.slice Ao124 t309.length co124)) (fun _ hk => hk.2) (.slice Ao130 t312.length co130)) (fun _ hk => hk.2) (.int .i64 t315)) (fun _ h_ => h_.1))) hb); have n1_ := Aside0.mk (Kd.R_below (by (with_reducible repeat (first | apply Kd.R_alloc | apply Kd.R_drewN | apply Kd.R_drew)); exact (Kd.R_mono (Kd.R_far (p := ⟨gb317, 2, none⟩) (Kd.R_far (p := ⟨gb317, 1, none⟩) (Kd.R_far (p := ⟨gb317, 0, none⟩) (Kd.R_types HO_268001.out BK317.out (by decide)) (fun _ hk => hk.2) (.slice Ao124 t309.length co124)) (fun _ hk => hk.2) (.slice Ao130 t312.length co130)) (fun _ hk => hk.2) (.int .i64 t315)) (fun _ h_ => h_.1))) hb); have n2_ := Aside0.mk (Kd.R_below (by (with_reducible repeat (first | apply Kd.R_alloc | apply Kd.R_drewN | apply Kd.R_drew)); exact (Kd.R_mono (Kd.R_far (p := ⟨gb317, 2, none⟩) (Kd.R_far (p := ⟨gb317, 1, none⟩) (Kd.R_far (p := ⟨gb317, 0, none⟩) (Kd.R_types HO_276000.out BK317.out (by decide)) (fun _ hk => hk.2) (.slice Ao124 t309.length co124)) (fun _ hk => hk.2) (.slice Ao130 t312.length co130)) (fun _ hk => hk.2) (.int .i64 t315)) (fun _ h_ => h_.1))) hb); have n3_ := Aside0.mk (Kd.R_below (by (with_reducible repeat (first | apply Kd.R_alloc | apply Kd.R_drewN | apply Kd.R_drew)); exact (Kd.R_mono (Kd.R_far (p := ⟨gb317, 2, none⟩) (Kd.R_far (p := ⟨gb317, 1, none⟩) (Kd.R_far (p := ⟨gb317, 0, none⟩) (Kd.R_types HO_276001.out BK317.out (by decide)) (fun _ hk => hk.2) (.slice Ao124 t309.length co124)) (fun _ hk => hk.2) (.slice Ao130 t312.length co130)) (fun _ hk => hk.2) (.int .i64 t315)) (fun _ h_ => h_.1))) hb); have n4_ := Aside0.mk (Kd.R_below (by (with_reducible repeat (first | apply Kd.R_alloc | apply Kd.R_drewN | apply Kd.R_drew)); exact (Kd.R_mono (Kd.R_far (p := ⟨gb317, 2, none⟩) (Kd.R_far (p := ⟨gb317, 1, none⟩) (Kd.R_far (p := ⟨gb317, 0, none⟩) (Kd.R_types HO_285000.out BK317.out (by decide)) (fun _ hk => hk.2) (.slice Ao124 t309.length co124)) (fun _ hk => hk.2) (.slice Ao130 t312.length co130)) (fun _ hk => hk.2) (.int .i64 t315)) (fun _ h_ => h_.1))) hb); have n5_ := Aside0.mk (Kd.R_below (by (with_reducible repeat (first | apply Kd.R_alloc | apply Kd.R_drewN | apply Kd.R_drew)); exact (Kd.R_mono (Kd.R_far (p := ⟨gb317, 2, none⟩) (Kd.R_far (p := ⟨gb317, 1, none⟩) (Kd.R_far (p := ⟨gb317, 0, none⟩) (Kd.R_types HO_285001.out BK317.out (by decide)) (fun _ hk => hk.2) (.slice Ao124 t309.length co124)) (fun _ hk => hk.2) (.slice Ao130 t312.length co130)) (fun _ hk => hk.2) (.int .i64 t315)) (fun _ h_ => h_.1))) hb); have n6_ := Aside0.mk (Kd.R_below (by (with_reducible repeat (first | apply Kd.R_alloc | apply Kd.R_drewN | apply Kd.R_drew)); exact (Kd.R_mono (Kd.R_far (p := ⟨gb317, 2, none⟩) (Kd.R_far (p := ⟨gb317, 1, none⟩) (Kd.R_far (p := ⟨gb317, 0, none⟩) (Kd.R_types HO304.out BK317.out (by decide)) (fun _ hk => hk.2) (.slice Ao124 t309.length co124)) (fun _ hk => hk.2) (.slice Ao130 t312.length co130)) (fun _ hk => hk.2) (.int .i64 t315)) (fun _ h_ => h_.1))) hb); have n7_ := Aside0.mk (Kd.R_below (by (with_reducible repeat (first | apply Kd.R_alloc | apply Kd.R_drewN | apply Kd.R_drew)); exact (Kd.R_mono (Kd.R_far (p := ⟨gb317, 2, none⟩) (Kd.R_far (p := ⟨gb317, 1, none⟩) (Kd.R_far (p := ⟨gb317, 0, none⟩) (Kd.R_types HO307.out BK317.out (by decide)) (fun _ hk => hk.2) (.slice Ao124 t309.length co124)) (fun _ hk => hk.2) (.slice Ao130 t312.length co130)) (fun _ hk => hk.2) (.int .i64 t315)) (fun _ h_ => h_.1))) hb); have n8_ := Aside0.mk (Kd.R_below (by (with_reducible repeat (first | apply Kd.R_alloc | apply Kd.R_drewN | apply Kd.R_drew)); exact (Kd.R_mono (Kd.R_far (p := ⟨gb317, 2, none⟩) (Kd.R_far (p := ⟨gb317, 1, none⟩) (Kd.R_far (p := ⟨gb317, 0, none⟩) (Kd.R_types HO311.out BK317.out (by decide)) (fun _ hk => hk.2) (.slice Ao124 t309.length co124)) (fun _ hk => hk.2) (.slice Ao130 t312.length co130)) (fun _ hk => hk.2) (.int .i64 t315)) (fun _ h_ => h_.1))) hb); have n9_ := Aside0.mk (Kd.R_below (by (with_reducible repeat (first | apply Kd.R_alloc | apply Kd.R_drewN | apply Kd.R_drew)); exact (Kd.R_mono (Kd.R_far (p := ⟨gb317, 2, none⟩) (Kd.R_far (p := ⟨gb317, 1, none⟩) (Kd.R_far (p := ⟨gb317, 0, none⟩) (Kd.R_types HO314.out BK317.out (by decide)) (fun _ hk => hk.2) (.slice Ao124 t309.length co124)) (fun _ hk => hk.2) (.slice Ao130 t312.length co130)) (fun _ hk => hk.2) (.int .i64 t315)) (fun _ h_ => h_.1))) hb); have n10_ := Aside0.mk (blk_below (g := gb250) (o := .cells #[.slice A0_0 l0_0.length c0_0, .slice A0_1 l0_1.length c0_1, .int .i64 a0_2] 24 (0, 0)) (by (with_reducible repeat (first | refine blk_drewN ?_ _ | refine blk_drew ?_ | refine blk_alloc ?_ _)); refine blk_far ?_ NB250_317.out _; (with_reducible repeat (first | refine blk_drewN ?_ _ | refine blk_drew ?_ | refine blk_alloc ?_ _)); refine blk_far ?_ NB250_317.out _; (with_reducible repeat (first | refine blk_drewN ?_ _ | refine blk_drew ?_ | refine blk_alloc ?_ _)); refine blk_far ?_ NB250_317.out _; (with_reducible repeat (first | refine blk_drewN ?_ _ | refine blk_drew ?_ | refine blk_alloc ?_ _)); exact BK250.out) hb); have n11_ := Aside0.mk (blk_below (g := gb267) (o := .cells #[.slice Ao21 t259.length co21, .slice Ao24 t262.length co24, .int .i64 t265] 27 (0, 0)) (by (with_reducible repeat (first | refine blk_drewN ?_ _ | refine blk_drew ?_ | refine blk_alloc ?_ _)); refine blk_far ?_ NB267_317.out _; (with_reducible repeat (first | refine blk_drewN ?_ _ | refine blk_drew ?_ | refine blk_alloc ?_ _)); refine blk_far ?_ NB267_317.out _; (with_reducible repeat (first | refine blk_drewN ?_ _ | refine blk_drew ?_ | refine blk_alloc ?_ _)); refine blk_far ?_ NB267_317.out _; (with_reducible repeat (first | refine blk_drewN ?_ _ | refine blk_drew ?_ | refine blk_alloc ?_ _)); exact BK267.out) hb); have n12_ := Aside0.mk (blk_below (g := gb275) (o := .cells #[.slice Ao28 t295.length co28, .slice Ao32 t296.length co32, .int .i64 t274] 27 (0, 0)) (by (with_reducible repeat (first | refine blk_drewN ?_ _ | refine blk_drew ?_ | refine blk_alloc ?_ _)); refine blk_far ?_ NB275_317.out _; (with_reducible repeat (first | refine blk_drewN ?_ _ | refine blk_drew ?_ | refine blk_alloc ?_ _)); refine blk_far ?_ NB275_317.out _; (with_reducible repeat (first | refine blk_drewN ?_ _ | refine blk_drew ?_ | refine blk_alloc ?_ _)); refine blk_far ?_ NB275_317.out _; (with_reducible repeat (first | refine blk_drewN ?_ _ | refine blk_drew ?_ | refine blk_alloc ?_ _)); exact BK275.out) hb); have n13_ := Aside0.mk (blk_below (g := gb284) (o := .cells #[.slice Ao35 t276.length co35, .slice Ao40 t279.length co40, .int .i64 t282] 27 (0, 0)) (by (with_reducible repeat (first | refine blk_drewN ?_ _ | refine blk_drew ?_ | refine blk_alloc ?_ _)); refine blk_far ?_ NB284_317.out _; (with_reducible repeat (first | refine blk_drewN ?_ _ | refine blk_drew ?_ | refine blk_alloc ?_ _)); refine blk_far ?_ NB284_317.out _; (with_reducible repeat (first | refine blk_drewN ?_ _ | refine blk_drew ?_ | refine blk_alloc ?_ _)); refine blk_far ?_ NB284_317.out _; (with_reducible repeat (first | refine blk_drewN ?_ _ | refine blk_drew ?_ | refine blk_alloc ?_ _)); exact BK284.out) hb); have n14_ := Aside0.mk (blk_below (g := gb317) (o := .cells #[.slice Ao124 t309.length co124, .slice Ao130 t312.length co130, .int .i64 t315] 27 (0, 0)) (by (with_reducible repeat (first | refine blk_drewN ?_ _ | refine blk_drew ?_ | refine blk_alloc ?_ _)); refine blk_put (cs := #[.slice Ao124 t309.length co124, .slice Ao130 t312.length co130, .int .i64 0]) ?_ 2 _ rfl; (with_reducible repeat (first | refine blk_drewN ?_ _ | refine blk_drew ?_ | refine blk_alloc ?_ _)); refine blk_put (cs := #[.slice Ao124 t309.length co124, .slice none 0 0, .int .i64 0]) ?_ 1 _ rfl; (with_reducible repeat (first | refine blk_drewN ?_ _ | refine blk_drew ?_ | refine blk_alloc ?_ _)); refine blk_put (cs := #[.slice none 0 0, .slice none 0 0, .int .i64 0]) ?_ 0 _ rfl; (with_reducible repeat (first | refine blk_drewN ?_ _ | refine blk_drew ?_ | refine blk_alloc ?_ _)); exact BK317.out) hb); have n15_ := Aside0.mk (below_step (by repeat (first | (with_reducible first | exact HB.out | apply below_alloc | apply pw_below_drewN | apply below_drew1 | refine below_set ?_ GE250.out | refine below_set ?_ GE267.out | refine below_set ?_ GE275.out | refine below_set ?_ GE284.out | refine below_set ?_ GE317.out) | exact HB.out)) hb); clear HO_268000; clear HO_268001; clear HO_276000; clear HO_276001; clear HO_285000; clear HO_285001; clear HO304; clear HO307; clear HO311; clear HO314; clear BK250; clear BK267; clear BK275; clear BK284; clear BK317; clear HB; have HO_268000 := n0_; have HO_268001 := n1_; have HO_276000 := n2_; have HO_276001 := n3_; have HO_285000 := n4_; have HO_285001 := n5_; have HO304 := n6_; have HO307 := n7_; have HO311 := n8_; have HO314 := n9_; have BK250 := n10_; have BK267 := n11_; have BK275 := n12_; have BK284 := n13_; have BK317 := n14_; have HB := n15_; clear n0_ n1_ n2_ n3_ n4_ n5_ n6_ n7_ n8_ n9_ n10_ n11_ n12_ n13_ n14_ n15_; (try clear hb); (try clear hb2); (try clear hk); (try clear hi)))
                          go_meet
                          case rel => exact ⟨_, ((t316 != t266)), (by first | rfl | (simp; done) | (simp [*]; done)), H', ⟨by have := HJ10.out; have := HJ63.out; first | omega | exact Nat.le_refl _⟩, ⟨by (try simp only [hl276000_63]); (try simp only [hl276001_63]); (with_reducible repeat (first | apply Kd.R_alloc | apply Kd.R_drewN | apply Kd.R_drew)); exact Kd.R_mono HO_268000.out (fun _ hk => ⟨hk.1.1.1.1.1, ⟨hk.1.1.1.1.2.1, ⟨hk.1.1.1.1.2.2.1, ⟨hk.1.1.1.1.2.2.2.1, ⟨hk.1.1.1.1.2.2.2.2, ⟨hk.1.2, hk.2⟩⟩⟩⟩⟩⟩)⟩, ⟨by (try simp only [hl276000_63]); (try simp only [hl276001_63]); (with_reducible repeat (first | apply Kd.R_alloc | apply Kd.R_drewN | apply Kd.R_drew)); exact Kd.R_mono HO_268001.out (fun _ hk => ⟨hk.1.1.1.1.1, ⟨hk.1.1.1.1.2.1, ⟨hk.1.1.1.1.2.2.1, ⟨hk.1.1.1.1.2.2.2.1, ⟨hk.1.1.1.1.2.2.2.2, ⟨hk.1.2, hk.2⟩⟩⟩⟩⟩⟩)⟩, ⟨by (try simp only [hl276000_63]); (try simp only [hl276001_63]); (with_reducible repeat (first | apply Kd.R_alloc | apply Kd.R_drewN | apply Kd.R_drew)); exact Kd.R_mono HO_276000.out (fun _ hk => ⟨hk.1.1.1.1.1, ⟨hk.1.1.1.1.2.1, ⟨hk.1.1.1.1.2.2.1, ⟨hk.1.1.1.1.2.2.2.1, ⟨hk.1.1.1.1.2.2.2.2, ⟨hk.1.2, hk.2⟩⟩⟩⟩⟩⟩)⟩, ⟨by (try simp only [hl276000_63]); (try simp only [hl276001_63]); (with_reducible repeat (first | apply Kd.R_alloc | apply Kd.R_drewN | apply Kd.R_drew)); exact Kd.R_mono HO_276001.out (fun _ hk => ⟨hk.1.1.1.1.1, ⟨hk.1.1.1.1.2.1, ⟨hk.1.1.1.1.2.2.1, ⟨hk.1.1.1.1.2.2.2.1, ⟨hk.1.1.1.1.2.2.2.2, ⟨hk.1.2, hk.2⟩⟩⟩⟩⟩⟩)⟩, ⟨by (try simp only [hl276000_63]); (try simp only [hl276001_63]); (with_reducible repeat (first | apply Kd.R_alloc | apply Kd.R_drewN | apply Kd.R_drew)); exact Kd.R_mono HO_285000.out (fun _ hk => ⟨hk.1.1.1.1.1, ⟨hk.1.1.1.1.2.1, ⟨hk.1.1.1.1.2.2.1, ⟨hk.1.1.1.1.2.2.2.1, ⟨hk.1.1.1.1.2.2.2.2, ⟨hk.1.2, hk.2⟩⟩⟩⟩⟩⟩)⟩, ⟨by (try simp only [hl276000_63]); (try simp only [hl276001_63]); (with_reducible repeat (first | apply Kd.R_alloc | apply Kd.R_drewN | apply Kd.R_drew)); exact Kd.R_mono HO_285001.out (fun _ hk => ⟨hk.1.1.1.1.1, ⟨hk.1.1.1.1.2.1, ⟨hk.1.1.1.1.2.2.1, ⟨hk.1.1.1.1.2.2.2.1, ⟨hk.1.1.1.1.2.2.2.2, ⟨hk.1.2, hk.2⟩⟩⟩⟩⟩⟩)⟩, ⟨by (try simp only [hl276000_63]); (try simp only [hl276001_63]); (with_reducible repeat (first | apply Kd.R_alloc | apply Kd.R_drewN | apply Kd.R_drew)); exact Kd.R_mono HO311.out (fun _ hk => ⟨hk.1.1.1.1.1.1.1.2, ⟨hk.1.1.1.1.1.1.2, ⟨hk.1.1.1.1.1.2, ⟨hk.1.1.1.1.2, ⟨hk.1.1.1.2, ⟨hk.1.1.2, hk.1.1.1.1.1.1.1.1⟩⟩⟩⟩⟩⟩)⟩, ⟨by (try simp only [hl276000_63]); (try simp only [hl276001_63]); (with_reducible repeat (first | apply Kd.R_alloc | apply Kd.R_drewN | apply Kd.R_drew)); exact Kd.R_mono HO314.out (fun _ hk => ⟨hk.1.1.1.1.1.1.1.2, ⟨hk.1.1.1.1.1.1.2, ⟨hk.1.1.1.1.1.2, ⟨hk.1.1.1.1.2, ⟨hk.1.1.1.2, ⟨hk.1.1.2, hk.1.1.1.1.1.1.1.1⟩⟩⟩⟩⟩⟩)⟩, ⟨by (try simp only [hl276000_63]); (try simp only [hl276001_63]); (with_reducible repeat (first | refine blk_drewN ?_ _ | refine blk_drew ?_ | refine blk_alloc ?_ _)); exact BK250.out⟩, ⟨by (try simp only [hl276000_63]); (try simp only [hl276001_63]); (with_reducible repeat (first | refine blk_drewN ?_ _ | refine blk_drew ?_ | refine blk_alloc ?_ _)); exact BK267.out⟩, ⟨by (try simp only [hl276000_63]); (try simp only [hl276001_63]); (with_reducible repeat (first | refine blk_drewN ?_ _ | refine blk_drew ?_ | refine blk_alloc ?_ _)); exact BK275.out⟩, ⟨by (try simp only [hl276000_63]); (try simp only [hl276001_63]); (with_reducible repeat (first | refine blk_drewN ?_ _ | refine blk_drew ?_ | refine blk_alloc ?_ _)); exact BK284.out⟩, ⟨by (try simp only [hl276000_63]); (try simp only [hl276001_63]); (with_reducible repeat (first | refine blk_drewN ?_ _ | refine blk_drew ?_ | refine blk_alloc ?_ _)); exact BK317.out⟩, ⟨by repeat (first | (with_reducible first | exact HB.out | apply below_alloc | apply pw_below_drewN | apply below_drew1 | refine below_set ?_ GE250.out | refine below_set ?_ GE267.out | refine below_set ?_ GE275.out | refine below_set ?_ GE284.out | refine below_set ?_ GE317.out) | exact HB.out)⟩⟩
                        · replace c132 := Bool.eq_false_iff.mpr c132
                          subst c132
                          have H1 : (laws_FnExactMirrorState.j2 kj63 t298 true t299 t300 t282) = some r := by rw [if_neg (show ¬ (false = true) by decide)] at H; exact H
                          rw [hr_] at H1; exact absurd H1 (laws_FnExactMirrorState.j2_no _ _ _ _ _)
                      case rest =>
                        clear HC108
                        try clear c1
                        try clear c2
                        try clear p2
                        try clear c3
                        try clear c3b0
                        try clear c4
                        try clear c5
                        try clear c6
                        try clear c7
                        try clear c8
                        try clear c9
                        try clear c10
                        try clear c11
                        try clear c12
                        try clear c13
                        try clear c14
                        try clear c15
                        try clear c17
                        try clear c18
                        try clear c19
                        try clear c20
                        try clear c22
                        try clear c29
                        try clear c30
                        try clear c36
                        try clear c37
                        try clear c38
                        try clear c42
                        try clear c43
                        try clear c44
                        try clear c45
                        try clear c47
                        try clear c48
                        try clear c51
                        try clear c52
                        try clear c53
                        try clear c55
                        try clear c56
                        try clear c59
                        try clear c62
                        try clear c70
                        try clear c71
                        try clear c72
                        try clear c75
                        try clear c75b0
                        try clear c77
                        try clear c78
                        try clear c79
                        try clear c80
                        try clear c82
                        try clear c83
                        try clear c86
                        try clear c87
                        try clear c88
                        try clear c90
                        try clear c91
                        try clear c94
                        try clear c97
                        try clear c97b0
                        try clear c98
                        try clear c99
                        try clear c100
                        try clear c105
                        try clear c105b0
                        try clear c105b1
                        try clear c109
                        try clear c110
                        try clear c111
                        try clear c116
                        try clear c117
                        try clear c125
                        try clear c126
                        try clear c127
                        try clear c128
                        try clear c132
                        try clear c133
                        try clear c134
                        try clear c135
                        try clear c136
                        try clear c138
                        try clear c139
                        try clear c140
                        try clear c143
                        try clear c144
                        try clear c145
                        try clear c146
                        try clear c148
                        try clear c149
                        try clear c150
                        try clear hcz101_0
                        try clear hcz101_1
                        try clear hcz101_2
                        try clear hcz103_0
                        try clear hcz103_1
                        try clear hcz103_2
                        try clear hcz112_0
                        try clear hcz112_1
                        try clear hcz112_2
                        try clear hcz114_0
                        try clear hcz114_1
                        try clear hcz114_2
                        try clear hcz118_0
                        try clear hcz118_1
                        try clear hcz118_2
                        try clear hcz129_0
                        try clear hcz129_1
                        try clear hcz129_2
                        try clear hcz137_0
                        try clear hcz137_1
                        try clear hcz137_2
                        try clear hcz13_0
                        try clear hcz13_1
                        try clear hcz13_2
                        try clear hcz141_0
                        try clear hcz141_1
                        try clear hcz141_2
                        try clear hcz147_0
                        try clear hcz147_1
                        try clear hcz147_2
                        try clear hcz151_0
                        try clear hcz151_1
                        try clear hcz151_2
                        try clear hcz15_0
                        try clear hcz15_1
                        try clear hcz15_2
                        try clear hcz23_0
                        try clear hcz23_1
                        try clear hcz23_2
                        try clear hcz25_0
                        try clear hcz25_1
                        try clear hcz25_2
                        try clear hcz31_0
                        try clear hcz31_1
                        try clear hcz31_2
                        try clear hcz39_0
                        try clear hcz39_1
                        try clear hcz39_2
                        try clear hcz46_0
                        try clear hcz46_1
                        try clear hcz46_2
                        try clear hcz49_0
                        try clear hcz49_1
                        try clear hcz49_2
                        try clear hcz54_0
                        try clear hcz54_1
                        try clear hcz54_2
                        try clear hcz57_0
                        try clear hcz57_1
                        try clear hcz57_2
                        try clear hcz5_0
                        try clear hcz5_1
                        try clear hcz5_2
                        try clear hcz73_0
                        try clear hcz73_1
                        try clear hcz73_2
                        try clear hcz81_0
                        try clear hcz81_1
                        try clear hcz81_2
                        try clear hcz84_0
                        try clear hcz84_1
                        try clear hcz84_2
                        try clear hcz89_0
                        try clear hcz89_1
                        try clear hcz89_2
                        try clear hcz92_0
                        try clear hcz92_1
                        try clear hcz92_2
                        try clear hfz101_0
                        try clear hfz101_1
                        try clear hfz101_2
                        try clear hfz103_0
                        try clear hfz103_1
                        try clear hfz103_2
                        try clear hfz112_0
                        try clear hfz112_1
                        try clear hfz112_2
                        try clear hfz114_0
                        try clear hfz114_1
                        try clear hfz114_2
                        try clear hfz118_0
                        try clear hfz118_1
                        try clear hfz118_2
                        try clear hfz129_0
                        try clear hfz129_1
                        try clear hfz129_2
                        try clear hfz137_0
                        try clear hfz137_1
                        try clear hfz137_2
                        try clear hfz13_0
                        try clear hfz13_1
                        try clear hfz13_2
                        try clear hfz141_0
                        try clear hfz141_1
                        try clear hfz141_2
                        try clear hfz147_0
                        try clear hfz147_1
                        try clear hfz147_2
                        try clear hfz151_0
                        try clear hfz151_1
                        try clear hfz151_2
                        try clear hfz15_0
                        try clear hfz15_1
                        try clear hfz15_2
                        try clear hfz23_0
                        try clear hfz23_1
                        try clear hfz23_2
                        try clear hfz25_0
                        try clear hfz25_1
                        try clear hfz25_2
                        try clear hfz31_0
                        try clear hfz31_1
                        try clear hfz31_2
                        try clear hfz39_0
                        try clear hfz39_1
                        try clear hfz39_2
                        try clear hfz46_0
                        try clear hfz46_1
                        try clear hfz46_2
                        try clear hfz49_0
                        try clear hfz49_1
                        try clear hfz49_2
                        try clear hfz54_0
                        try clear hfz54_1
                        try clear hfz54_2
                        try clear hfz57_0
                        try clear hfz57_1
                        try clear hfz57_2
                        try clear hfz5_0
                        try clear hfz5_1
                        try clear hfz5_2
                        try clear hfz73_0
                        try clear hfz73_1
                        try clear hfz73_2
                        try clear hfz81_0
                        try clear hfz81_1
                        try clear hfz81_2
                        try clear hfz84_0
                        try clear hfz84_1
                        try clear hfz84_2
                        try clear hfz89_0
                        try clear hfz89_1
                        try clear hfz89_2
                        try clear hfz92_0
                        try clear hfz92_1
                        try clear hfz92_2
                        try clear p2
                        obtain ⟨kq, x87_107, rfl, HA, HJ107, HO_268000, HO_268001, HO_276000, HO_276001, HO_285000, HO_285001, HO_318000, HO_318001, BK250, BK267, BK275, BK284, BK317, HB⟩ := hcut
                        have hl285000_107 := (Kd.R_reads' HO_285000.out).1
                        rw [hl285000_107] at HO_285000
                        (try simp only [hl285000_107])
                        (try simp only [hl285000_107] at BK250)
                        (try simp only [hl285000_107] at BK267)
                        (try simp only [hl285000_107] at BK275)
                        (try simp only [hl285000_107] at BK284)
                        (try simp only [hl285000_107] at BK317)
                        (try simp only [hl285000_107] at HO_268000)
                        (try simp only [hl285000_107] at HO_268001)
                        (try simp only [hl285000_107] at HO_276000)
                        (try simp only [hl285000_107] at HO_276001)
                        (try simp only [hl285000_107] at HO_285001)
                        (try simp only [hl285000_107] at HO_318000)
                        (try simp only [hl285000_107] at HO_318001)
                        have hl285001_107 := (Kd.R_reads' HO_285001.out).1
                        rw [hl285001_107] at HO_285001
                        (try simp only [hl285001_107])
                        (try simp only [hl285001_107] at BK250)
                        (try simp only [hl285001_107] at BK267)
                        (try simp only [hl285001_107] at BK275)
                        (try simp only [hl285001_107] at BK284)
                        (try simp only [hl285001_107] at BK317)
                        (try simp only [hl285001_107] at HO_268000)
                        (try simp only [hl285001_107] at HO_268001)
                        (try simp only [hl285001_107] at HO_276000)
                        (try simp only [hl285001_107] at HO_276001)
                        (try simp only [hl285001_107] at HO_285000)
                        (try simp only [hl285001_107] at HO_318000)
                        (try simp only [hl285001_107] at HO_318001)
                        cases kq with
                        | zero => exact absurd HA.out (by simp [laws_FnExactMirrorState.j2])
                        | succ kj107 =>
                          have H := HA.out
                          clear HA
                          simp only [laws_FnExactMirrorState.j2] at H
                          by_cases c153 : x87_107 = true
                          · subst c153
                            have H1 : (some false) = some r := by rw [if_pos rfl] at H; exact H
                            rw [hr_] at H1; exact absurd H1 (by decide)
                          · replace c153 := Bool.eq_false_iff.mpr c153
                            subst c153
                            have H1 : ((laws_heldState.f kj107 t299 t300 t282 1).bind fun t319 => (if t319 < 0 then (some false) else (if t319 = t298 then (some true) else (some false)))) = some r := by rw [if_neg (show ¬ (false = true) by decide)] at H; exact H
                            clear H
                            have H := H1
                            clear H1
                            replace H := Option.bind_eq_some_iff.mp H
                            obtain ⟨t319, A1540, H⟩ := H
                            replace H : (if t319 < 0 then (some false) else (if t319 = t298 then (some true) else (some false))) = some r := H
                            have A154 := Aside0.mk A1540
                            clear A1540
                            by_cases c155 : t319 < 0
                            · rw [if_pos c155] at H
                              have c155b0 : decide (t319 < 0) = true := decide_eq_true c155
                              clear c155
                              obtain rfl := Option.some.inj H
                              have hnb156 := NB284_250.out
                              have hnc156 := NB250_284.out
                              have hnb157 := NB284_267.out
                              have hnc157 := NB267_284.out
                              have hnb158 := NB284_275.out
                              have hnc158 := NB275_284.out
                              have hnb159 := NB284_317.out
                              have hnc159 := NB317_284.out
                              have hcz160_0 : wc.cell? ⟨gb284, 0, none⟩ = some (.slice Ao35 t299.length co35) := (blk_cell BK284.out 0).trans rfl
                              have hcz160_1 : wc.cell? ⟨gb284, 1, none⟩ = some (.slice Ao40 t300.length co40) := (blk_cell BK284.out 1).trans rfl
                              have hcz160_2 : wc.cell? ⟨gb284, 2, none⟩ = some (.int .i64 t282) := (blk_cell BK284.out 2).trans rfl
                              have hfz160_0 := blk_frozen BK284.out 0
                              have hfz160_1 := blk_frozen BK284.out 1
                              have hfz160_2 := blk_frozen BK284.out 2
                              go_wp2_with (first | ((with_reducible refine gate_callee (f := 20) rfl ?_); refine goesL_ (some 90) rfl rfl Try.func20 (by kernel_rfl) rfl #[.agg #[.slice Ao35 t299.length co35, .slice Ao40 t300.length co40, .int .i64 t282], .int .i64 1] rfl (by (try simp only [List.map_toArray, List.map_cons, List.map_nil]); first | done | rfl | (simp only [List.length_drop, List.length_take]; rfl)) ?_; (with_reducible refine (laws_heldState.calls kj107 _ _ t299 _ _ t300 t282 1 t319 _ ?side1 ?side2 ?side3 ?side4 A154.out).mono ?_); (case side1 => repeat (first | exact (Kd.R_reads' HO_285000.out).2.2 | (with_reducible refine Kd.C_alloc ?_ _) | (with_reducible refine Kd.C_drewN ?_ _) | (with_reducible refine Kd.C_drew ?_))); (case side2 => exact (Kd.R_reads' HO_285000.out).2.1); (case side3 => repeat (first | exact (Kd.R_reads' HO_285001.out).2.2 | (with_reducible refine Kd.C_alloc ?_ _) | (with_reducible refine Kd.C_drewN ?_ _) | (with_reducible refine Kd.C_drew ?_))); (case side4 => exact (Kd.R_reads' HO_285001.out).2.1); rintro e w161 ⟨rfl, hb⟩; refine ⟨_, rfl, ?_⟩; have n0_ := Aside0.mk (Kd.R_below (by (with_reducible repeat (first | apply Kd.R_alloc | apply Kd.R_drewN | apply Kd.R_drew)); exact HO_268000.out) hb); have n1_ := Aside0.mk (Kd.R_below (by (with_reducible repeat (first | apply Kd.R_alloc | apply Kd.R_drewN | apply Kd.R_drew)); exact HO_268001.out) hb); have n2_ := Aside0.mk (Kd.R_below (by (with_reducible repeat (first | apply Kd.R_alloc | apply Kd.R_drewN | apply Kd.R_drew)); exact HO_276000.out) hb); have n3_ := Aside0.mk (Kd.R_below (by (with_reducible repeat (first | apply Kd.R_alloc | apply Kd.R_drewN | apply Kd.R_drew)); exact HO_276001.out) hb); have n4_ := Aside0.mk (Kd.R_below (by (with_reducible repeat (first | apply Kd.R_alloc | apply Kd.R_drewN | apply Kd.R_drew)); exact HO_285000.out) hb); have n5_ := Aside0.mk (Kd.R_below (by (with_reducible repeat (first | apply Kd.R_alloc | apply Kd.R_drewN | apply Kd.R_drew)); exact HO_285001.out) hb); have n6_ := Aside0.mk (Kd.R_below (by (with_reducible repeat (first | apply Kd.R_alloc | apply Kd.R_drewN | apply Kd.R_drew)); exact HO_318000.out) hb); have n7_ := Aside0.mk (Kd.R_below (by (with_reducible repeat (first | apply Kd.R_alloc | apply Kd.R_drewN | apply Kd.R_drew)); exact HO_318001.out) hb); have n8_ := Aside0.mk (blk_below (g := gb250) (o := .cells #[.slice A0_0 l0_0.length c0_0, .slice A0_1 l0_1.length c0_1, .int .i64 a0_2] 24 (0, 0)) (by (with_reducible repeat (first | refine blk_drewN ?_ _ | refine blk_drew ?_ | refine blk_alloc ?_ _)); exact BK250.out) hb); have n9_ := Aside0.mk (blk_below (g := gb267) (o := .cells #[.slice Ao21 t259.length co21, .slice Ao24 t262.length co24, .int .i64 t265] 27 (0, 0)) (by (with_reducible repeat (first | refine blk_drewN ?_ _ | refine blk_drew ?_ | refine blk_alloc ?_ _)); exact BK267.out) hb); have n10_ := Aside0.mk (blk_below (g := gb275) (o := .cells #[.slice Ao28 t295.length co28, .slice Ao32 t296.length co32, .int .i64 t274] 27 (0, 0)) (by (with_reducible repeat (first | refine blk_drewN ?_ _ | refine blk_drew ?_ | refine blk_alloc ?_ _)); exact BK275.out) hb); have n11_ := Aside0.mk (blk_below (g := gb284) (o := .cells #[.slice Ao35 t299.length co35, .slice Ao40 t300.length co40, .int .i64 t282] 27 (0, 0)) (by (with_reducible repeat (first | refine blk_drewN ?_ _ | refine blk_drew ?_ | refine blk_alloc ?_ _)); exact BK284.out) hb); have n12_ := Aside0.mk (blk_below (g := gb317) (o := .cells #[.slice Ao124 t309.length co124, .slice Ao130 t312.length co130, .int .i64 t315] 27 (0, 0)) (by (with_reducible repeat (first | refine blk_drewN ?_ _ | refine blk_drew ?_ | refine blk_alloc ?_ _)); exact BK317.out) hb); have n13_ := Aside0.mk (below_step (by repeat (first | (with_reducible first | exact HB.out | apply below_alloc | apply pw_below_drewN | apply below_drew1 | refine below_set ?_ GE250.out | refine below_set ?_ GE267.out | refine below_set ?_ GE275.out | refine below_set ?_ GE284.out | refine below_set ?_ GE317.out) | exact HB.out)) hb); clear HO_268000; clear HO_268001; clear HO_276000; clear HO_276001; clear HO_285000; clear HO_285001; clear HO_318000; clear HO_318001; clear BK250; clear BK267; clear BK275; clear BK284; clear BK317; clear HB; have HO_268000 := n0_; have HO_268001 := n1_; have HO_276000 := n2_; have HO_276001 := n3_; have HO_285000 := n4_; have HO_285001 := n5_; have HO_318000 := n6_; have HO_318001 := n7_; have BK250 := n8_; have BK267 := n9_; have BK275 := n10_; have BK284 := n11_; have BK317 := n12_; have HB := n13_; clear n0_ n1_ n2_ n3_ n4_ n5_ n6_ n7_ n8_ n9_ n10_ n11_ n12_ n13_; (try clear hb); (try clear hb2); (try clear hk); (try clear hi)))
                              go_ret
                              exact ⟨by first | rfl | (simp [errW_none, errW_some] <;> rfl) | (simp [*, errW_none, errW_some] <;> rfl), by repeat (first | (with_reducible first | exact HB.out | apply below_alloc | apply pw_below_drewN | apply below_drew1 | refine below_set ?_ GE250.out | refine below_set ?_ GE267.out | refine below_set ?_ GE275.out | refine below_set ?_ GE284.out | refine below_set ?_ GE317.out) | exact HB.out)⟩
                            · rw [if_neg c155] at H
                              have c155b0 : decide (t319 < 0) = false := decide_eq_false c155
                              clear c155
                              by_cases c162 : t319 = t298
                              · rw [if_pos c162] at H
                                have c162b0 : (t319 == t298) = true := beq_iff_eq.mpr c162
                                have c162b1 : (t319 != t298) = false := bne_eq_false_iff_eq.mpr c162
                                clear c162
                                obtain rfl := Option.some.inj H
                                have hnb163 := NB284_250.out
                                have hnc163 := NB250_284.out
                                have hnb164 := NB284_267.out
                                have hnc164 := NB267_284.out
                                have hnb165 := NB284_275.out
                                have hnc165 := NB275_284.out
                                have hnb166 := NB284_317.out
                                have hnc166 := NB317_284.out
                                have hcz167_0 : wc.cell? ⟨gb284, 0, none⟩ = some (.slice Ao35 t299.length co35) := (blk_cell BK284.out 0).trans rfl
                                have hcz167_1 : wc.cell? ⟨gb284, 1, none⟩ = some (.slice Ao40 t300.length co40) := (blk_cell BK284.out 1).trans rfl
                                have hcz167_2 : wc.cell? ⟨gb284, 2, none⟩ = some (.int .i64 t282) := (blk_cell BK284.out 2).trans rfl
                                have hfz167_0 := blk_frozen BK284.out 0
                                have hfz167_1 := blk_frozen BK284.out 1
                                have hfz167_2 := blk_frozen BK284.out 2
                                go_wp2_with (first | ((with_reducible refine gate_callee (f := 20) rfl ?_); refine goesL_ (some 90) rfl rfl Try.func20 (by kernel_rfl) rfl #[.agg #[.slice Ao35 t299.length co35, .slice Ao40 t300.length co40, .int .i64 t282], .int .i64 1] rfl (by (try simp only [List.map_toArray, List.map_cons, List.map_nil]); first | done | rfl | (simp only [List.length_drop, List.length_take]; rfl)) ?_; (with_reducible refine (laws_heldState.calls kj107 _ _ t299 _ _ t300 t282 1 t319 _ ?side1 ?side2 ?side3 ?side4 A154.out).mono ?_); (case side1 => repeat (first | exact (Kd.R_reads' HO_285000.out).2.2 | (with_reducible refine Kd.C_alloc ?_ _) | (with_reducible refine Kd.C_drewN ?_ _) | (with_reducible refine Kd.C_drew ?_))); (case side2 => exact (Kd.R_reads' HO_285000.out).2.1); (case side3 => repeat (first | exact (Kd.R_reads' HO_285001.out).2.2 | (with_reducible refine Kd.C_alloc ?_ _) | (with_reducible refine Kd.C_drewN ?_ _) | (with_reducible refine Kd.C_drew ?_))); (case side4 => exact (Kd.R_reads' HO_285001.out).2.1); rintro e w168 ⟨rfl, hb⟩; refine ⟨_, rfl, ?_⟩; have n0_ := Aside0.mk (Kd.R_below (by (with_reducible repeat (first | apply Kd.R_alloc | apply Kd.R_drewN | apply Kd.R_drew)); exact HO_268000.out) hb); have n1_ := Aside0.mk (Kd.R_below (by (with_reducible repeat (first | apply Kd.R_alloc | apply Kd.R_drewN | apply Kd.R_drew)); exact HO_268001.out) hb); have n2_ := Aside0.mk (Kd.R_below (by (with_reducible repeat (first | apply Kd.R_alloc | apply Kd.R_drewN | apply Kd.R_drew)); exact HO_276000.out) hb); have n3_ := Aside0.mk (Kd.R_below (by (with_reducible repeat (first | apply Kd.R_alloc | apply Kd.R_drewN | apply Kd.R_drew)); exact HO_276001.out) hb); have n4_ := Aside0.mk (Kd.R_below (by (with_reducible repeat (first | apply Kd.R_alloc | apply Kd.R_drewN | apply Kd.R_drew)); exact HO_285000.out) hb); have n5_ := Aside0.mk (Kd.R_below (by (with_reducible repeat (first | apply Kd.R_alloc | apply Kd.R_drewN | apply Kd.R_drew)); exact HO_285001.out) hb); have n6_ := Aside0.mk (Kd.R_below (by (with_reducible repeat (first | apply Kd.R_alloc | apply Kd.R_drewN | apply Kd.R_drew)); exact HO_318000.out) hb); have n7_ := Aside0.mk (Kd.R_below (by (with_reducible repeat (first | apply Kd.R_alloc | apply Kd.R_drewN | apply Kd.R_drew)); exact HO_318001.out) hb); have n8_ := Aside0.mk (blk_below (g := gb250) (o := .cells #[.slice A0_0 l0_0.length c0_0, .slice A0_1 l0_1.length c0_1, .int .i64 a0_2] 24 (0, 0)) (by (with_reducible repeat (first | refine blk_drewN ?_ _ | refine blk_drew ?_ | refine blk_alloc ?_ _)); exact BK250.out) hb); have n9_ := Aside0.mk (blk_below (g := gb267) (o := .cells #[.slice Ao21 t259.length co21, .slice Ao24 t262.length co24, .int .i64 t265] 27 (0, 0)) (by (with_reducible repeat (first | refine blk_drewN ?_ _ | refine blk_drew ?_ | refine blk_alloc ?_ _)); exact BK267.out) hb); have n10_ := Aside0.mk (blk_below (g := gb275) (o := .cells #[.slice Ao28 t295.length co28, .slice Ao32 t296.length co32, .int .i64 t274] 27 (0, 0)) (by (with_reducible repeat (first | refine blk_drewN ?_ _ | refine blk_drew ?_ | refine blk_alloc ?_ _)); exact BK275.out) hb); have n11_ := Aside0.mk (blk_below (g := gb284) (o := .cells #[.slice Ao35 t299.length co35, .slice Ao40 t300.length co40, .int .i64 t282] 27 (0, 0)) (by (with_reducible repeat (first | refine blk_drewN ?_ _ | refine blk_drew ?_ | refine blk_alloc ?_ _)); exact BK284.out) hb); have n12_ := Aside0.mk (blk_below (g := gb317) (o := .cells #[.slice Ao124 t309.length co124, .slice Ao130 t312.length co130, .int .i64 t315] 27 (0, 0)) (by (with_reducible repeat (first | refine blk_drewN ?_ _ | refine blk_drew ?_ | refine blk_alloc ?_ _)); exact BK317.out) hb); have n13_ := Aside0.mk (below_step (by repeat (first | (with_reducible first | exact HB.out | apply below_alloc | apply pw_below_drewN | apply below_drew1 | refine below_set ?_ GE250.out | refine below_set ?_ GE267.out | refine below_set ?_ GE275.out | refine below_set ?_ GE284.out | refine below_set ?_ GE317.out) | exact HB.out)) hb); clear HO_268000; clear HO_268001; clear HO_276000; clear HO_276001; clear HO_285000; clear HO_285001; clear HO_318000; clear HO_318001; clear BK250; clear BK267; clear BK275; clear BK284; clear BK317; clear HB; have HO_268000 := n0_; have HO_268001 := n1_; have HO_276000 := n2_; have HO_276001 := n3_; have HO_285000 := n4_; have HO_285001 := n5_; have HO_318000 := n6_; have HO_318001 := n7_; have BK250 := n8_; have BK267 := n9_; have BK275 := n10_; have BK284 := n11_; have BK317 := n12_; have HB := n13_; clear n0_ n1_ n2_ n3_ n4_ n5_ n6_ n7_ n8_ n9_ n10_ n11_ n12_ n13_; (try clear hb); (try clear hb2); (try clear hk); (try clear hi)))
                                go_ret
                                exact ⟨by first | rfl | (simp [errW_none, errW_some] <;> rfl) | (simp [*, errW_none, errW_some] <;> rfl), by repeat (first | (with_reducible first | exact HB.out | apply below_alloc | apply pw_below_drewN | apply below_drew1 | refine below_set ?_ GE250.out | refine below_set ?_ GE267.out | refine below_set ?_ GE275.out | refine below_set ?_ GE284.out | refine below_set ?_ GE317.out) | exact HB.out)⟩
                              · rw [if_neg c162] at H
                                have c162b0 : (t319 == t298) = false := beq_eq_false_iff_ne.mpr c162
                                have c162b1 : (t319 != t298) = true := bne_iff_ne.mpr c162
                                obtain rfl := Option.some.inj H
                                have hnb169 := NB284_250.out
                                have hnc169 := NB250_284.out
                                have hnb170 := NB284_267.out
                                have hnc170 := NB267_284.out
                                have hnb171 := NB284_275.out
                                have hnc171 := NB275_284.out
                                have hnb172 := NB284_317.out
                                have hnc172 := NB317_284.out
                                have hcz173_0 : wc.cell? ⟨gb284, 0, none⟩ = some (.slice Ao35 t299.length co35) := (blk_cell BK284.out 0).trans rfl
                                have hcz173_1 : wc.cell? ⟨gb284, 1, none⟩ = some (.slice Ao40 t300.length co40) := (blk_cell BK284.out 1).trans rfl
                                have hcz173_2 : wc.cell? ⟨gb284, 2, none⟩ = some (.int .i64 t282) := (blk_cell BK284.out 2).trans rfl
                                have hfz173_0 := blk_frozen BK284.out 0
                                have hfz173_1 := blk_frozen BK284.out 1
                                have hfz173_2 := blk_frozen BK284.out 2
                                go_wp2_with (first | ((with_reducible refine gate_callee (f := 20) rfl ?_); refine goesL_ (some 90) rfl rfl Try.func20 (by kernel_rfl) rfl #[.agg #[.slice Ao35 t299.length co35, .slice Ao40 t300.length co40, .int .i64 t282], .int .i64 1] rfl (by (try simp only [List.map_toArray, List.map_cons, List.map_nil]); first | done | rfl | (simp only [List.length_drop, List.length_take]; rfl)) ?_; (with_reducible refine (laws_heldState.calls kj107 _ _ t299 _ _ t300 t282 1 t319 _ ?side1 ?side2 ?side3 ?side4 A154.out).mono ?_); (case side1 => repeat (first | exact (Kd.R_reads' HO_285000.out).2.2 | (with_reducible refine Kd.C_alloc ?_ _) | (with_reducible refine Kd.C_drewN ?_ _) | (with_reducible refine Kd.C_drew ?_))); (case side2 => exact (Kd.R_reads' HO_285000.out).2.1); (case side3 => repeat (first | exact (Kd.R_reads' HO_285001.out).2.2 | (with_reducible refine Kd.C_alloc ?_ _) | (with_reducible refine Kd.C_drewN ?_ _) | (with_reducible refine Kd.C_drew ?_))); (case side4 => exact (Kd.R_reads' HO_285001.out).2.1); rintro e w174 ⟨rfl, hb⟩; refine ⟨_, rfl, ?_⟩; have n0_ := Aside0.mk (Kd.R_below (by (with_reducible repeat (first | apply Kd.R_alloc | apply Kd.R_drewN | apply Kd.R_drew)); exact HO_268000.out) hb); have n1_ := Aside0.mk (Kd.R_below (by (with_reducible repeat (first | apply Kd.R_alloc | apply Kd.R_drewN | apply Kd.R_drew)); exact HO_268001.out) hb); have n2_ := Aside0.mk (Kd.R_below (by (with_reducible repeat (first | apply Kd.R_alloc | apply Kd.R_drewN | apply Kd.R_drew)); exact HO_276000.out) hb); have n3_ := Aside0.mk (Kd.R_below (by (with_reducible repeat (first | apply Kd.R_alloc | apply Kd.R_drewN | apply Kd.R_drew)); exact HO_276001.out) hb); have n4_ := Aside0.mk (Kd.R_below (by (with_reducible repeat (first | apply Kd.R_alloc | apply Kd.R_drewN | apply Kd.R_drew)); exact HO_285000.out) hb); have n5_ := Aside0.mk (Kd.R_below (by (with_reducible repeat (first | apply Kd.R_alloc | apply Kd.R_drewN | apply Kd.R_drew)); exact HO_285001.out) hb); have n6_ := Aside0.mk (Kd.R_below (by (with_reducible repeat (first | apply Kd.R_alloc | apply Kd.R_drewN | apply Kd.R_drew)); exact HO_318000.out) hb); have n7_ := Aside0.mk (Kd.R_below (by (with_reducible repeat (first | apply Kd.R_alloc | apply Kd.R_drewN | apply Kd.R_drew)); exact HO_318001.out) hb); have n8_ := Aside0.mk (blk_below (g := gb250) (o := .cells #[.slice A0_0 l0_0.length c0_0, .slice A0_1 l0_1.length c0_1, .int .i64 a0_2] 24 (0, 0)) (by (with_reducible repeat (first | refine blk_drewN ?_ _ | refine blk_drew ?_ | refine blk_alloc ?_ _)); exact BK250.out) hb); have n9_ := Aside0.mk (blk_below (g := gb267) (o := .cells #[.slice Ao21 t259.length co21, .slice Ao24 t262.length co24, .int .i64 t265] 27 (0, 0)) (by (with_reducible repeat (first | refine blk_drewN ?_ _ | refine blk_drew ?_ | refine blk_alloc ?_ _)); exact BK267.out) hb); have n10_ := Aside0.mk (blk_below (g := gb275) (o := .cells #[.slice Ao28 t295.length co28, .slice Ao32 t296.length co32, .int .i64 t274] 27 (0, 0)) (by (with_reducible repeat (first | refine blk_drewN ?_ _ | refine blk_drew ?_ | refine blk_alloc ?_ _)); exact BK275.out) hb); have n11_ := Aside0.mk (blk_below (g := gb284) (o := .cells #[.slice Ao35 t299.length co35, .slice Ao40 t300.length co40, .int .i64 t282] 27 (0, 0)) (by (with_reducible repeat (first | refine blk_drewN ?_ _ | refine blk_drew ?_ | refine blk_alloc ?_ _)); exact BK284.out) hb); have n12_ := Aside0.mk (blk_below (g := gb317) (o := .cells #[.slice Ao124 t309.length co124, .slice Ao130 t312.length co130, .int .i64 t315] 27 (0, 0)) (by (with_reducible repeat (first | refine blk_drewN ?_ _ | refine blk_drew ?_ | refine blk_alloc ?_ _)); exact BK317.out) hb); have n13_ := Aside0.mk (below_step (by repeat (first | (with_reducible first | exact HB.out | apply below_alloc | apply pw_below_drewN | apply below_drew1 | refine below_set ?_ GE250.out | refine below_set ?_ GE267.out | refine below_set ?_ GE275.out | refine below_set ?_ GE284.out | refine below_set ?_ GE317.out) | exact HB.out)) hb); clear HO_268000; clear HO_268001; clear HO_276000; clear HO_276001; clear HO_285000; clear HO_285001; clear HO_318000; clear HO_318001; clear BK250; clear BK267; clear BK275; clear BK284; clear BK317; clear HB; have HO_268000 := n0_; have HO_268001 := n1_; have HO_276000 := n2_; have HO_276001 := n3_; have HO_285000 := n4_; have HO_285001 := n5_; have HO_318000 := n6_; have HO_318001 := n7_; have BK250 := n8_; have BK267 := n9_; have BK275 := n10_; have BK284 := n11_; have BK317 := n12_; have HB := n13_; clear n0_ n1_ n2_ n3_ n4_ n5_ n6_ n7_ n8_ n9_ n10_ n11_ n12_ n13_; (try clear hb); (try clear hb2); (try clear hk); (try clear hi)))
                                go_ret
                                exact ⟨by first | rfl | (simp [errW_none, errW_some] <;> rfl) | (simp [*, errW_none, errW_some] <;> rfl), by repeat (first | (with_reducible first | exact HB.out | apply below_alloc | apply pw_below_drewN | apply below_drew1 | refine below_set ?_ GE250.out | refine below_set ?_ GE267.out | refine below_set ?_ GE275.out | refine below_set ?_ GE284.out | refine below_set ?_ GE317.out) | exact HB.out)⟩
                    · rw [if_neg c105] at H
                      have c105b0 : (t301 == t298) = false := beq_eq_false_iff_ne.mpr c105
                      have c105b1 : (t301 != t298) = true := bne_iff_ne.mpr c105
                      obtain rfl := Option.some.inj H
                      have hnb175 := NB284_250.out
                      have hnc175 := NB250_284.out
                      have hnb176 := NB284_267.out
                      have hnc176 := NB267_284.out
                      have hnb177 := NB284_275.out
                      have hnc177 := NB275_284.out
                      have hcz178_0 : wc.cell? ⟨gb284, 0, none⟩ = some (.slice Ao35 t276.length co35) := (blk_cell BK284.out 0).trans rfl
                      have hcz178_1 : wc.cell? ⟨gb284, 1, none⟩ = some (.slice Ao40 t279.length co40) := (blk_cell BK284.out 1).trans rfl
                      have hcz178_2 : wc.cell? ⟨gb284, 2, none⟩ = some (.int .i64 t282) := (blk_cell BK284.out 2).trans rfl
                      have hfz178_0 := blk_frozen BK284.out 0
                      have hfz178_1 := blk_frozen BK284.out 1
                      have hfz178_2 := blk_frozen BK284.out 2
                      go_wp2_with (first | ((with_reducible refine gate_callee (f := 19) rfl ?_); refine goesL_ (some 64) rfl rfl Try.func19 (by kernel_rfl) rfl #[.agg #[.slice Ao35 t276.length co35, .slice Ao40 t279.length co40, .int .i64 t282], .int .i64 1] rfl (by (try simp only [List.map_toArray, List.map_cons, List.map_nil]); first | done | rfl | (simp only [List.length_drop, List.length_take]; rfl)) ?_; (with_reducible refine (laws_markState.calls kj63 (fun k_ => some k_ = (.slice Ao35 t276.length co35 : Value).ownBlock) (.slice Ao35 t276.length co35) t276 (fun k_ => some k_ = (.slice Ao40 t279.length co40 : Value).ownBlock) (.slice Ao40 t279.length co40) t279 t282 1 t298 t299 t300 w _ ?side1 ?side2 ?side3 ?side4 ?side5 A95.out).mono ?_); (case side1 => repeat (first | (with_reducible first | exact HB.out | apply below_alloc | apply pw_below_drewN | apply below_drew1 | refine below_set ?_ GE250.out | refine below_set ?_ GE267.out | refine below_set ?_ GE275.out | refine below_set ?_ GE284.out) | exact HB.out)); (case side2 => exact Kd.R_tight rfl HO_285000.out); (case side3 => exact fun k_ e_ => (HO_285000.out.1 k_ e_.symm).2.2.2.2); (case side4 => exact Kd.R_tight rfl HO_285001.out); (case side5 => exact fun k_ e_ => (HO_285001.out.1 k_ e_.symm).2.2.2.2); rintro e w179 ⟨rfl, hy0, hy1, hb, hkp⟩; refine ⟨_, rfl, ?_⟩; have n0_ := Aside0.mk (Kd.R_mono (ok' := fun k_ => some k_ ≠ (.slice Ao24 t262.length co24 : Value).ownBlock ∧ some k_ ≠ (.slice Ao28 t295.length co28 : Value).ownBlock ∧ some k_ ≠ (.slice Ao32 t296.length co32 : Value).ownBlock ∧ some k_ ≠ (.slice Ao35 t276.length co35 : Value).ownBlock ∧ some k_ ≠ (.slice Ao40 t279.length co40 : Value).ownBlock) (Kd.R_keptB (HO_268000.out) hkp (fun k_ hk_ hs_ => Or.elim hs_ (fun e_ => (hk_.2.2.2.1) e_) (fun e_ => (hk_.2.2.2.2) e_))) (fun k_ hk_ => ⟨hk_.1.1, hk_.1.2.1, hk_.1.2.2.1, hk_.1.2.2.2.1, hk_.1.2.2.2.2⟩)); have n1_ := Aside0.mk (Kd.R_mono (ok' := fun k_ => some k_ ≠ (.slice Ao21 t259.length co21 : Value).ownBlock ∧ some k_ ≠ (.slice Ao28 t295.length co28 : Value).ownBlock ∧ some k_ ≠ (.slice Ao32 t296.length co32 : Value).ownBlock ∧ some k_ ≠ (.slice Ao35 t276.length co35 : Value).ownBlock ∧ some k_ ≠ (.slice Ao40 t279.length co40 : Value).ownBlock) (Kd.R_keptB (HO_268001.out) hkp (fun k_ hk_ hs_ => Or.elim hs_ (fun e_ => (hk_.2.2.2.1) e_) (fun e_ => (hk_.2.2.2.2) e_))) (fun k_ hk_ => ⟨hk_.1.1, hk_.1.2.1, hk_.1.2.2.1, hk_.1.2.2.2.1, hk_.1.2.2.2.2⟩)); have n2_ := Aside0.mk (Kd.R_mono (ok' := fun k_ => some k_ ≠ (.slice Ao21 t259.length co21 : Value).ownBlock ∧ some k_ ≠ (.slice Ao24 t262.length co24 : Value).ownBlock ∧ some k_ ≠ (.slice Ao32 t296.length co32 : Value).ownBlock ∧ some k_ ≠ (.slice Ao35 t276.length co35 : Value).ownBlock ∧ some k_ ≠ (.slice Ao40 t279.length co40 : Value).ownBlock) (Kd.R_keptB (HO_276000.out) hkp (fun k_ hk_ hs_ => Or.elim hs_ (fun e_ => (hk_.2.2.2.1) e_) (fun e_ => (hk_.2.2.2.2) e_))) (fun k_ hk_ => ⟨hk_.1.1, hk_.1.2.1, hk_.1.2.2.1, hk_.1.2.2.2.1, hk_.1.2.2.2.2⟩)); have n3_ := Aside0.mk (Kd.R_mono (ok' := fun k_ => some k_ ≠ (.slice Ao21 t259.length co21 : Value).ownBlock ∧ some k_ ≠ (.slice Ao24 t262.length co24 : Value).ownBlock ∧ some k_ ≠ (.slice Ao28 t295.length co28 : Value).ownBlock ∧ some k_ ≠ (.slice Ao35 t276.length co35 : Value).ownBlock ∧ some k_ ≠ (.slice Ao40 t279.length co40 : Value).ownBlock) (Kd.R_keptB (HO_276001.out) hkp (fun k_ hk_ hs_ => Or.elim hs_ (fun e_ => (hk_.2.2.2.1) e_) (fun e_ => (hk_.2.2.2.2) e_))) (fun k_ hk_ => ⟨hk_.1.1, hk_.1.2.1, hk_.1.2.2.1, hk_.1.2.2.2.1, hk_.1.2.2.2.2⟩)); have n4_ := Aside0.mk (Kd.R_reok rfl hy0 (fun k_ e_ => HO_285000.out.1 k_ e_)); have n5_ := Aside0.mk (Kd.R_reok rfl hy1 (fun k_ e_ => HO_285001.out.1 k_ e_)); have n6_ := Aside0.mk (blk_kept (by (with_reducible repeat (first | refine blk_drewN ?_ _ | refine blk_drew ?_ | refine blk_alloc ?_ _)); exact BK250.out) hkp (fun hs_ => Or.elim hs_ (fun e_ => (fun e_ => (Kd.R_ne HO_285000.out BK250.out (by decide)) e_) e_) (fun e_ => (fun e_ => (Kd.R_ne HO_285001.out BK250.out (by decide)) e_) e_))); have n7_ := Aside0.mk (blk_kept (by (with_reducible repeat (first | refine blk_drewN ?_ _ | refine blk_drew ?_ | refine blk_alloc ?_ _)); exact BK267.out) hkp (fun hs_ => Or.elim hs_ (fun e_ => (fun e_ => (Kd.R_ne HO_285000.out BK267.out (by decide)) e_) e_) (fun e_ => (fun e_ => (Kd.R_ne HO_285001.out BK267.out (by decide)) e_) e_))); have n8_ := Aside0.mk (blk_kept (by (with_reducible repeat (first | refine blk_drewN ?_ _ | refine blk_drew ?_ | refine blk_alloc ?_ _)); exact BK275.out) hkp (fun hs_ => Or.elim hs_ (fun e_ => (fun e_ => (Kd.R_ne HO_285000.out BK275.out (by decide)) e_) e_) (fun e_ => (fun e_ => (Kd.R_ne HO_285001.out BK275.out (by decide)) e_) e_))); have n9_ := Aside0.mk (blk_kept (by (with_reducible repeat (first | refine blk_drewN ?_ _ | refine blk_drew ?_ | refine blk_alloc ?_ _)); exact BK284.out) hkp (fun hs_ => Or.elim hs_ (fun e_ => (fun e_ => (Kd.R_ne HO_285000.out BK284.out (by decide)) e_) e_) (fun e_ => (fun e_ => (Kd.R_ne HO_285001.out BK284.out (by decide)) e_) e_))); have n10_ := Aside0.mk (hb); clear HO_268000; clear HO_268001; clear HO_276000; clear HO_276001; clear HO_285000; clear HO_285001; clear BK250; clear BK267; clear BK275; clear BK284; clear HB; have HO_268000 := n0_; have HO_268001 := n1_; have HO_276000 := n2_; have HO_276001 := n3_; have HO_285000 := n4_; have HO_285001 := n5_; have BK250 := n6_; have BK267 := n7_; have BK275 := n8_; have BK284 := n9_; have HB := n10_; clear n0_ n1_ n2_ n3_ n4_ n5_ n6_ n7_ n8_ n9_ n10_; (try clear hb); (try clear hkp); (try clear hy0); (try clear hy1); have hcz180_0 : w179.cell? ⟨gb284, 0, none⟩ = some (.slice Ao35 t276.length co35) := (blk_cell BK284.out 0).trans rfl; have hcz180_1 : w179.cell? ⟨gb284, 1, none⟩ = some (.slice Ao40 t279.length co40) := (blk_cell BK284.out 1).trans rfl; have hcz180_2 : w179.cell? ⟨gb284, 2, none⟩ = some (.int .i64 t282) := (blk_cell BK284.out 2).trans rfl; have hfz180_0 := blk_frozen BK284.out 0; have hfz180_1 := blk_frozen BK284.out 1; have hfz180_2 := blk_frozen BK284.out 2) | ((with_reducible refine gate_callee (f := 20) rfl ?_); refine goesL_ (some 67) rfl rfl Try.func20 (by kernel_rfl) rfl #[.agg #[.slice Ao35 t299.length co35, .slice Ao40 t300.length co40, .int .i64 t282], .int .i64 1] rfl (by (try simp only [List.map_toArray, List.map_cons, List.map_nil]); first | done | (rw [show t299.length = t276.length from (Kd.R_reads' HO_285000.out).1.symm, show t300.length = t279.length from (Kd.R_reads' HO_285001.out).1.symm] <;> rfl) | rfl | (simp only [List.length_drop, List.length_take]; rfl)) ?_; (with_reducible refine (laws_heldState.calls kj63 _ _ t299 _ _ t300 t282 1 t301 _ ?side1 ?side2 ?side3 ?side4 A96.out).mono ?_); (case side1 => repeat (first | exact (Kd.R_reads' HO_285000.out).2.2 | (with_reducible refine Kd.C_alloc ?_ _) | (with_reducible refine Kd.C_drewN ?_ _) | (with_reducible refine Kd.C_drew ?_))); (case side2 => rw [show t299.length = t276.length from (Kd.R_reads' HO_285000.out).1.symm]; exact (Kd.R_reads' HO_285000.out).2.1); (case side3 => repeat (first | exact (Kd.R_reads' HO_285001.out).2.2 | (with_reducible refine Kd.C_alloc ?_ _) | (with_reducible refine Kd.C_drewN ?_ _) | (with_reducible refine Kd.C_drew ?_))); (case side4 => rw [show t300.length = t279.length from (Kd.R_reads' HO_285001.out).1.symm]; exact (Kd.R_reads' HO_285001.out).2.1); rintro e w181 ⟨rfl, hb⟩; refine ⟨_, rfl, ?_⟩; have n0_ := Aside0.mk (Kd.R_below (by (with_reducible repeat (first | apply Kd.R_alloc | apply Kd.R_drewN | apply Kd.R_drew)); exact HO_268000.out) hb); have n1_ := Aside0.mk (Kd.R_below (by (with_reducible repeat (first | apply Kd.R_alloc | apply Kd.R_drewN | apply Kd.R_drew)); exact HO_268001.out) hb); have n2_ := Aside0.mk (Kd.R_below (by (with_reducible repeat (first | apply Kd.R_alloc | apply Kd.R_drewN | apply Kd.R_drew)); exact HO_276000.out) hb); have n3_ := Aside0.mk (Kd.R_below (by (with_reducible repeat (first | apply Kd.R_alloc | apply Kd.R_drewN | apply Kd.R_drew)); exact HO_276001.out) hb); have n4_ := Aside0.mk (Kd.R_below (by (with_reducible repeat (first | apply Kd.R_alloc | apply Kd.R_drewN | apply Kd.R_drew)); exact HO_285000.out) hb); have n5_ := Aside0.mk (Kd.R_below (by (with_reducible repeat (first | apply Kd.R_alloc | apply Kd.R_drewN | apply Kd.R_drew)); exact HO_285001.out) hb); have n6_ := Aside0.mk (blk_below (g := gb250) (o := .cells #[.slice A0_0 l0_0.length c0_0, .slice A0_1 l0_1.length c0_1, .int .i64 a0_2] 24 (0, 0)) (by (with_reducible repeat (first | refine blk_drewN ?_ _ | refine blk_drew ?_ | refine blk_alloc ?_ _)); exact BK250.out) hb); have n7_ := Aside0.mk (blk_below (g := gb267) (o := .cells #[.slice Ao21 t259.length co21, .slice Ao24 t262.length co24, .int .i64 t265] 27 (0, 0)) (by (with_reducible repeat (first | refine blk_drewN ?_ _ | refine blk_drew ?_ | refine blk_alloc ?_ _)); exact BK267.out) hb); have n8_ := Aside0.mk (blk_below (g := gb275) (o := .cells #[.slice Ao28 t295.length co28, .slice Ao32 t296.length co32, .int .i64 t274] 27 (0, 0)) (by (with_reducible repeat (first | refine blk_drewN ?_ _ | refine blk_drew ?_ | refine blk_alloc ?_ _)); exact BK275.out) hb); have n9_ := Aside0.mk (blk_below (g := gb284) (o := .cells #[.slice Ao35 t276.length co35, .slice Ao40 t279.length co40, .int .i64 t282] 27 (0, 0)) (by (with_reducible repeat (first | refine blk_drewN ?_ _ | refine blk_drew ?_ | refine blk_alloc ?_ _)); exact BK284.out) hb); have n10_ := Aside0.mk (below_step (by repeat (first | (with_reducible first | exact HB.out | apply below_alloc | apply pw_below_drewN | apply below_drew1 | refine below_set ?_ GE250.out | refine below_set ?_ GE267.out | refine below_set ?_ GE275.out | refine below_set ?_ GE284.out) | exact HB.out)) hb); clear HO_268000; clear HO_268001; clear HO_276000; clear HO_276001; clear HO_285000; clear HO_285001; clear BK250; clear BK267; clear BK275; clear BK284; clear HB; have HO_268000 := n0_; have HO_268001 := n1_; have HO_276000 := n2_; have HO_276001 := n3_; have HO_285000 := n4_; have HO_285001 := n5_; have BK250 := n6_; have BK267 := n7_; have BK275 := n8_; have BK284 := n9_; have HB := n10_; clear n0_ n1_ n2_ n3_ n4_ n5_ n6_ n7_ n8_ n9_ n10_; (try clear hb); (try clear hb2); (try clear hk); (try clear hi)))
                      go_ret
                      exact ⟨by first | rfl | (simp [errW_none, errW_some] <;> rfl) | (simp [*, errW_none, errW_some] <;> rfl), by repeat (first | (with_reducible first | exact HB.out | apply below_alloc | apply pw_below_drewN | apply below_drew1 | refine below_set ?_ GE250.out | refine below_set ?_ GE267.out | refine below_set ?_ GE275.out | refine below_set ?_ GE284.out) | exact HB.out)⟩
          · replace c62 := Bool.eq_false_iff.mpr c62
            subst c62
            have H1 : (some false) = some r := by rw [if_neg (show ¬ (false = true) by decide)] at H; exact H
            rw [hr_] at H1; exact absurd H1 (by decide)
/-- THE ONE PURE STATEMENT of laws_FnExactMirrorState. -/
def laws_FnExactMirrorState.Pure : Prop := ∀ (l0_0 : List Int) (l0_1 : List Int) (a0_2 : Int), l0_0.length ≤ maxLen → l0_0.length * 8 ≤ 140737488351232 → (∀ x ∈ l0_0, (Lit.int .i64 x).wf = true) → l0_1.length ≤ maxLen → l0_1.length * 8 ≤ 140737488351232 → (∀ x ∈ l0_1, (Lit.int .i64 x).wf = true) → (Lit.int .i64 a0_2).wf = true → ∃ k, laws_FnExactMirrorState.f k l0_0 l0_1 a0_2 = some true
theorem laws_FnExactMirrorState.walk (P : laws_FnExactMirrorState.Pure) (a0_0 : Option Addr) (len0_0 cap0_0 : Nat) (z0_0 : List Int) (a0_1 : Option Addr) (len0_1 cap0_1 : Nat) (z0_1 : List Int) (a0_2 : Int) (w : World) (w0_0 : (a0_0 = none ∧ len0_0 = 0 ∧ cap0_0 = 0 ∧ z0_0 = []) ∨ ∃ x, a0_0 = some x ∧ len0_0 ≤ cap0_0 ∧ cap0_0 ≤ maxLen ∧ z0_0.length = cap0_0 ∧ (∀ i, i < z0_0.length → w.cell? (x.add i) = some (.int .i64 (z0_0.getD i 0))) ∧ ∀ n ∈ z0_0, (Lit.int .i64 n).wf = true) (y0_0 : len0_0 * 8 ≤ 140737488351232) (w0_1 : (a0_1 = none ∧ len0_1 = 0 ∧ cap0_1 = 0 ∧ z0_1 = []) ∨ ∃ x, a0_1 = some x ∧ len0_1 ≤ cap0_1 ∧ cap0_1 ≤ maxLen ∧ z0_1.length = cap0_1 ∧ (∀ i, i < z0_1.length → w.cell? (x.add i) = some (.int .i64 (z0_1.getD i 0))) ∧ ∀ n ∈ z0_1, (Lit.int .i64 n).wf = true) (y0_1 : len0_1 * 8 ≤ 140737488351232) (w0_2 : (Lit.int .i64 a0_2).wf = true) :
    Calls Try.prog 5 #[.agg #[.slice a0_0 len0_0 cap0_0, .slice a0_1 len0_1 cap0_1, .int .i64 a0_2]] w fun e w' => e = .returned (.bool true) ∧ Below w.heap.size w w' := by
  obtain ⟨l0_0, rfl, hr0_0, hm0_0, hw0_0, hc0_0⟩ := ReadsInt.ofRowC w0_0
  obtain ⟨l0_1, rfl, hr0_1, hm0_1, hw0_1, hc0_1⟩ := ReadsInt.ofRowC w0_1
  obtain ⟨k, h⟩ := P l0_0 l0_1 a0_2 hm0_0 y0_0 hw0_0 hm0_1 y0_1 hw0_1 w0_2
  refine (laws_FnExactMirrorState.calls k _ _ l0_0 _ _ l0_1 a0_2 true w (Kd.C_of_reads (d := (0 : Int)) (h1 := fun _ => rfl) hr0_0) hc0_0 (Kd.C_of_reads (d := (0 : Int)) (h1 := fun _ => rfl) hr0_1) hc0_1 rfl h).mono ?_
  rintro e w' ⟨rfl, hd⟩
  exact ⟨rfl, hd⟩

end Go.Proofs.Ytlbaldejaapbiaa.QFnExactMirrorState
