-- Written by wip/myprint.py (a program of mine round the kit's printer). Lean checks it.
import Derived.Test.YtlbaldejaapbiaaQFnExactStatesAfterx0
import Derived.Test.YtlbaldejaapbiaaQFnExactStatesAfterx7
import Derived.Test.YtlbaldejaapbiaaQFnExactStatesAfterx8
import Derived.Test.YtlbaldejaapbiaaQFnExactStatesAfterx9
import Derived.Test.YtlbaldejaapbiaaQFnExactStatesAfterx11
namespace Go.Proofs.Ytlbaldejaapbiaa.QFnExactStatesAfter
open Go.RowKit Go.Proofs.YtlbaldejaapbiaaW.PrintWords Go.Proofs.YtlbaldejaapbiaaW.PrintLast Go.Proofs.YtlbaldejaapbiaaW.PrintMore
attribute [local go_sem] max2_int min2_int max_two min_two max_three min_three max_four min_four
set_option linter.unusedVariables false
set_option linter.unusedSimpArgs false
set_option maxHeartbeats 8000000
set_option maxRecDepth 100000
def gSt (b : Nat) : Kd (S27 × Value × Value) where
 sz := 3
 E := []
 K := fun w x cs => cs = [x.2.1, x.2.2, .int .i64 x.1.f2] ∧ (Kd.int .i64).R 3 w b (fun _ => True) x.2.1 x.1.f0 ∧ (Kd.int .i64).R 3 w b (fun _ => True) x.2.2 x.1.f1
 M := fun _ _ _ _ _ => False
 K_len := fun h => by rw [h.1]; rfl
 K_one := fun h u hu => by
  rw [h.1] at hu
  rcases List.mem_cons.1 hu with rfl | hu
  ·exact (Kd.R_val h.2.1).2
  ·rcases List.mem_cons.1 hu with rfl | hu
   ·exact (Kd.R_val h.2.2).2
   ·obtain rfl := List.mem_singleton.1 hu
    rfl
 K_below := fun hb h => ⟨h.1, Kd.R_below h.2.1 hb, Kd.R_below h.2.2 hb⟩
 K_of_M := fun h => h.elim
 M_mono := fun _ h => h.elim
 M_bound := fun h => h.elim
 M_move := fun _ h => h.elim
 M_lower := fun _ h => h.elim
theorem gSt_k (b : Nat) (W : World) (x : S27 × Value × Value) (cs : List Value) (h : (gSt b).K W x cs) : k27.K W x.1 cs := by
 obtain ⟨rfl, h1, h2⟩ := h
 obtain ⟨A, c, e⟩ := Kd.R_slice h1
 obtain ⟨B, d, e2⟩ := Kd.R_slice h2
 rw [e] at h1 ⊢
 rw [e2] at h2 ⊢
 exact k27_mk W x.1 (Kd.R_reads' h1).2.1 (Kd.R_reads' h1).2.2 (Kd.R_reads' h2).2.1 (Kd.R_reads' h2).2.2
theorem gSt_map {α β : Type} {d : Kd α} {d' : Kd β} {e base : Nat} {w : World} {ok : Nat → Prop} {v : Value} {xs : List α} (φ : α → β) (hsz : d'.sz = d.sz) (hK : ∀ (W : World) (x : α) (cs : List Value), d.K W x cs → d'.K W (φ x) cs) (h : Kd.N d e w base ok v xs) : Kd.N d' e w base ok v (xs.map φ) := by
 obtain ⟨h0, rows, hl, hR, hf⟩ := h
 refine ⟨h0, rows, by rw [hl, List.length_map], by rw [hsz]; exact hR, fun j y c hy hc => ?_⟩
 rw [List.getElem?_map] at hy
 obtain ⟨x, hx, rfl⟩ := Option.map_eq_some_iff.1 hy
 exact fun W' hW => hK _ _ _ (hf j x c hx hc W' hW)
def ApartV (vs : List Value) : Prop := vs.Pairwise (fun u v => ∀ k, u.ownBlock = some k → v.ownBlock ≠ some k)
def flatG (g : List (S27 × Value × Value)) : List Value := g.flatMap fun p => [p.2.1, p.2.2]
theorem flatG_perm {g g' : List (S27 × Value × Value)} (h : g'.Perm g) (ha : ApartV (flatG g)) : ApartV (flatG g') :=
 (List.Perm.pairwise_iff (fun {u v} h k hk e => h k e hk) (h.flatMap_right _)).2 ha
theorem flatG_sub {g g' : List (S27 × Value × Value)} (h : g'.Sublist g) (ha : ApartV (flatG g)) : ApartV (flatG g') := by
 have h2 : (flatG g').Sublist (flatG g) := by
  induction h with
  | slnil => exact List.Sublist.slnil
  | cons a h ih => exact List.Sublist.trans (ih (List.pairwise_append.1 ha).2.1) (List.sublist_append_right _ _)
  | cons_cons a h ih => exact List.Sublist.append (List.Sublist.refl _) (ih (List.pairwise_append.1 ha).2.1)
 exact ha.sublist h2
theorem gSt_els {b e base : Nat} {w : World} {ok : Nat → Prop} {v : Value} {g : List (S27 × Value × Value)} (h : Kd.N (gSt b) e w base ok v g) : ∀ x, x ∈ g → (Kd.int .i64).R 3 w b (fun _ => True) x.2.1 x.1.f0 ∧ (Kd.int .i64).R 3 w b (fun _ => True) x.2.2 x.1.f1 := by
 obtain ⟨h0, rows, hl, hR, hf⟩ := h
 intro x hx
 obtain ⟨j, hj⟩ := List.mem_iff_getElem?.1 hx
 have hjl := (List.getElem?_eq_some_iff.1 hj).1
 exact (Kd.FK_now (hf j x _ hj (List.getElem?_eq_getElem (by omega)))).2
theorem gSt_lt {b e base : Nat} {w : World} {ok : Nat → Prop} {v : Value} {g : List (S27 × Value × Value)} (h : Kd.N (gSt b) e w base ok v g) : ∀ u, u ∈ flatG g → ∀ k, u.ownBlock = some k → k < w.heap.size := by
 intro u hu k hk
 obtain ⟨x, hx, hu⟩ := List.mem_flatMap.1 hu
 obtain ⟨h1, h2⟩ := gSt_els h x hx
 rcases List.mem_cons.1 hu with rfl | hu
 ·exact Kd.R_lt h1 k hk
 ·obtain rfl := List.mem_singleton.1 hu
  exact Kd.R_lt h2 k hk
theorem gSt_snoc {g : List (S27 × Value × Value)} {H : Nat} (ha : ApartV (flatG g)) (hl : ∀ u, u ∈ flatG g → ∀ k, u.ownBlock = some k → k < H) {x y : Value} (hx : ∀ k, x.ownBlock = some k → H ≤ k) (hy : ∀ k, y.ownBlock = some k → H ≤ k) (hxy : ∀ k, x.ownBlock = some k → y.ownBlock ≠ some k) (s : S27) : ApartV (flatG (g ++ [(s, x, y)])) := by
 have e : flatG (g ++ [(s, x, y)]) = flatG g ++ [x, y] := by simp [flatG]
 rw [e]
 refine List.pairwise_append.2 ⟨ha, List.pairwise_cons.2 ⟨fun z hz => ?_, List.pairwise_singleton _ _⟩, fun u hu z hz k hk e2 => ?_⟩
 ·obtain rfl := List.mem_singleton.1 hz
  exact hxy
 ·have h1 := hl u hu k hk
  rcases List.mem_cons.1 hz with rfl | hz
  ·have := hx k e2; omega
  ·obtain rfl := List.mem_singleton.1 hz
   have := hy k e2; omega
theorem gSt_mkF {b : Nat} {W : World} {ok ok1 ok2 : Nat → Prop} {x y : List Int} {c : Int} {u v : Value} (hx : (Kd.int .i64).R 3 W b ok1 u x) (h1 : ∀ k, ok1 k → ok k) (hy : (Kd.int .i64).R 3 W b ok2 v y) (h2 : ∀ k, ok2 k → ok k) : Kd.FK (gSt b) W ok ((⟨x, y, c⟩ : S27), u, v) [u, v, .int .i64 c] :=
 fun W' hW => ⟨rfl, Kd.R_mono (Kd.R_step hx (fun k hk hlt => hW k (h1 k hk) hlt)) (fun _ _ => trivial), Kd.R_mono (Kd.R_step hy (fun k hk hlt => hW k (h2 k hk) hlt)) (fun _ _ => trivial)⟩
def GN (b : Nat) (w : World) (base : Nat) (ok : Nat → Prop) (v : Value) (xs : List S27) : Prop := ∃ g : List (S27 × Value × Value), g.map Prod.fst = xs ∧ ApartV (flatG g) ∧ Kd.N (gSt b) 27 w base ok v g
theorem GN.n {b base : Nat} {w : World} {ok : Nat → Prop} {v : Value} {xs : List S27} (h : GN b w base ok v xs) : Kd.N k27 27 w base ok v xs := by
 obtain ⟨g, rfl, _, h⟩ := h
 exact gSt_map Prod.fst rfl (gSt_k b) h
theorem GN.nil {b base : Nat} {w : World} {ok : Nat → Prop} {v : Value} {xs : List S27} (hx : xs = []) (h : Kd.N k27 27 w base ok v xs) : GN b w base ok v xs := by
 subst hx
 obtain ⟨h0, rows, hl, hR, hf⟩ := h
 exact ⟨[], rfl, List.Pairwise.nil, h0, rows, hl, hR, fun j x c hx => by simp at hx⟩
theorem GN.sort {b base : Nat} {w : World} {ok : Nat → Prop} {v : Value} {xs r : List S27} (h : GN b w base ok v xs) (hf : sSf.f xs = some r) :
 Calls Try.prog 77 #[v, .func (.func 78) #[] #[]] w fun e w' => e = .returned (.tuple #[]) ∧ GN b w' base ok v r ∧ w.grownBy w' v.ownBlock := by
 obtain ⟨g, rfl, ha, h⟩ := h
 unfold sSf.f at hf
 by_cases c : (decide (0 < (g.map Prod.fst).length) && (decide ((g.map Prod.fst).length < 4611686018427387904) && (g.map Prod.fst).all (fun x => x.f2 == 0))) = true
 ·rw [if_pos c] at hf
  obtain rfl := Option.some.inj hf
  simp only [Bool.and_eq_true, decide_eq_true_eq, List.all_eq_true, beq_iff_eq, List.length_map] at c
  refine (sSf.sortG (d := gSt b) rfl Prod.fst (gSt_k b) h (fun x hx => c.2.2 _ (List.mem_map_of_mem hx)) c.1 c.2.1).mono ?_
  rintro e w' ⟨he, ys, h1, h2, h3, h4⟩
  exact ⟨he, ⟨ys, h2, flatG_perm h1 ha, h3⟩, h4⟩
 ·rw [if_neg c] at hf
  cases hf
theorem GN.comp {b base : Nat} {w : World} {ok : Nat → Prop} {v : Value} {xs r : List S27} (h : GN b w base ok v xs) (hf : sCf.f xs = some r) :
 Calls Try.prog 79 #[v, .func (.func 44) #[] #[]] w fun e w' => ∃ v', e = .returned v' ∧ GN b w' base ok v' r ∧ w.grownBy w' v.ownBlock ∧ v'.ownBlock = v.ownBlock := by
 obtain ⟨g, rfl, ha, h⟩ := h
 unfold sCf.f at hf
 by_cases c : (decide (0 < (g.map Prod.fst).length) && decide ((g.map Prod.fst).length < 4611686018427387904)) = true
 ·rw [if_pos c] at hf
  obtain rfl := Option.some.inj hf
  simp only [Bool.and_eq_true, decide_eq_true_eq, List.length_map] at c
  refine (sCf.compG (d := gSt b) rfl Prod.fst (gSt_k b) h c.1 c.2).mono ?_
  rintro e w' ⟨v', he, ys, h1, h2, h3, h4⟩
  exact ⟨v', he, ⟨ys, h2, flatG_sub h1 ha, h3⟩, h4⟩
 ·rw [if_neg c] at hf
  cases hf
theorem GN.own {b base : Nat} {w : World} {ok : Nat → Prop} {v : Value} {xs : List S27} (h : GN b w base ok v xs) : ∀ k, v.ownBlock = some k → ok k := h.n.1
theorem GN.mono {b base : Nat} {w : World} {ok ok' : Nat → Prop} {v : Value} {xs : List S27} (h : GN b w base ok v xs) (hk : ∀ k, ok k → ok' k) : GN b w base ok' v xs := by
 obtain ⟨g, h1, h2, h3⟩ := h
 exact ⟨g, h1, h2, Kd.N_mono h3 hk⟩
theorem gSt_app {b e base : Nat} {W w1 : World} {ok ok1 : Nat → Prop} {v x y : Value} {l0 l1 : List Int} {g : List (S27 × Value × Value)} (ha : ApartV (flatG g)) (h : Kd.N (gSt b) e W base ok v g) (hb : Below W.heap.size W w1)
 (h0 : (Kd.int .i64).R 3 w1 W.heap.size (fun k_ => some k_ ≠ (y : Value).ownBlock) x l0) (h1 : (Kd.int .i64).R 3 w1 W.heap.size ok1 y l1) : ∀ s : S27, ApartV (flatG (g ++ [(s, x, y)])) :=
 fun s => gSt_snoc ha (gSt_lt h) (fun k hk => Kd.R_base h0 k hk) (fun k hk => Kd.R_base h1 k hk) (fun k hk e => h0.1 k hk e.symm) s
theorem gSt_one {x y : Value} (h : ∀ k, x.ownBlock = some k → some k ≠ y.ownBlock) (s : S27) : ApartV (flatG [(s, x, y)]) :=
 List.pairwise_cons.2 ⟨fun z hz => by obtain rfl := List.mem_singleton.1 hz; exact fun k hk e => h k hk e.symm, List.pairwise_singleton _ _⟩
theorem impl_statesAfter.wp_at {P : Program} {ops : Array Oper} {Q : Exit → Act → World → Prop} {l : List Oper} {a : Act} {W : World} (h : ∀ w', Below W.heap.size W w' → wpList P ops Q l a w') : wpList P ops Q l a W := h W (Below.refl _ _)
mutual
def impl_statesAfter.l0 : Nat → List (S27) → Int → Int → Option ((List (S27)))
 | 0, _, _, _ => none
 | k + 1, x3, x12, x13 => if x13 < x12 then (impl_statesAfter.l1 k (([] : List (S27))) x12 x13 x3 (x3.length : Int) 0) else (some x3)
def impl_statesAfter.l1 : Nat → List (S27) → Int → Int → List (S27) → Int → Int → Option ((List (S27)))
 | 0, _, _, _, _, _, _ => none
 | k + 1, x4, x12, x13, x16, x17, x18 => if x18 < x17 then (if 0 ≤ x18 then (if x18 < (x16.length : Int) then (impl_statesAfter.l2 k x4 x12 x13 x16 x17 x18 0 ((rd_T27 x16 x18).f0) ((rd_T27 x16 x18).f1) ((rd_T27 x16 x18).f2)) else (none)) else (none)) else ((sSf.f x4).bind fun y418 => ((sCf.f y418).bind fun y418c => (impl_statesAfter.l0 k y418c x12 (wrap64 (x13 + 1)))))
def impl_statesAfter.l2 : Nat → List (S27) → Int → Int → List (S27) → Int → Int → Int → List Int → List Int → Int → Option ((List (S27)))
 | 0, _, _, _, _, _, _, _, _, _, _ => none
 | k + 1, x4, x12, x13, x16, x17, x18, x22, x426000, x426001, x426002 => if x22 < 4 then ((impl_State_stepped.f k x426000 x426001 x426002 x22).bind fun bt426 => (if bt426.2.2.2 = true then (if bt426.2.2.1 = 0 then (if x4.length < 2513169434916 then (impl_statesAfter.l2 k (x4 ++ [(⟨bt426.1, bt426.2.1, bt426.2.2.1⟩ : S27)]) x12 x13 x16 x17 x18 (wrap64 (x22 + 1)) x426000 x426001 x426002) else (none)) else (impl_statesAfter.l2 k x4 x12 x13 x16 x17 x18 (wrap64 (x22 + 1)) x426000 x426001 x426002)) else (impl_statesAfter.l2 k x4 x12 x13 x16 x17 x18 (wrap64 (x22 + 1)) x426000 x426001 x426002))) else (impl_statesAfter.l1 k x4 x12 x13 x16 x17 (wrap64 (x18 + 1)))
end
def impl_statesAfter.f (k : Nat) (a0 : Int) : Option ((List (S27))) := (impl_StartState.f).bind fun bt405 => (impl_statesAfter.l0 k (([(⟨bt405.1, bt405.2.1, bt405.2.2⟩ : S27)] : List (S27))) a0 0)
theorem impl_statesAfter.mono_l : ∀ k, (∀ y0 y1 y2, LeO (impl_statesAfter.l0 k y0 y1 y2) (impl_statesAfter.l0 (k + 1) y0 y1 y2)) ∧ (∀ y0 y1 y2 y3 y4 y5, LeO (impl_statesAfter.l1 k y0 y1 y2 y3 y4 y5) (impl_statesAfter.l1 (k + 1) y0 y1 y2 y3 y4 y5)) ∧ (∀ y0 y1 y2 y3 y4 y5 y6 y7 y8 y9, LeO (impl_statesAfter.l2 k y0 y1 y2 y3 y4 y5 y6 y7 y8 y9) (impl_statesAfter.l2 (k + 1) y0 y1 y2 y3 y4 y5 y6 y7 y8 y9))
 | 0 => ⟨fun _ _ _ r h => by simp [impl_statesAfter.l0] at h, fun _ _ _ _ _ _ r h => by simp [impl_statesAfter.l1] at h, fun _ _ _ _ _ _ _ _ _ _ r h => by simp [impl_statesAfter.l2] at h⟩
 | k + 1 => by
  obtain ⟨ih0, ih1, ih2⟩ := impl_statesAfter.mono_l k
  refine ⟨?_, ?_, ?_⟩
  ·intro y0 y1 y2
   unfold impl_statesAfter.l0
   repeat' first
    | (with_reducible first | exact ih0 _ _ _ | exact ih1 _ _ _ _ _ _ | exact ih2 _ _ _ _ _ _ _ _ _ _ | exact impl_State_stepped.mono _ _ _ _ _ | exact LeO.refl _ | exact LeO.none _ | refine LeO.ite ?_ ?_ | refine LeO.bind ?_ (fun _ => ?_))
    | exact LeO.none _
    | refine LeO.ite ?_ ?_
    | refine LeO.bind ?_ (fun _ => ?_)
  ·intro y0 y1 y2 y3 y4 y5
   unfold impl_statesAfter.l1
   repeat' first
    | (with_reducible first | exact ih0 _ _ _ | exact ih1 _ _ _ _ _ _ | exact ih2 _ _ _ _ _ _ _ _ _ _ | exact impl_State_stepped.mono _ _ _ _ _ | exact LeO.refl _ | exact LeO.none _ | refine LeO.ite ?_ ?_ | refine LeO.bind ?_ (fun _ => ?_))
    | exact LeO.none _
    | refine LeO.ite ?_ ?_
    | refine LeO.bind ?_ (fun _ => ?_)
  ·intro y0 y1 y2 y3 y4 y5 y6 y7 y8 y9
   unfold impl_statesAfter.l2
   repeat' first
    | (with_reducible first | exact ih0 _ _ _ | exact ih1 _ _ _ _ _ _ | exact ih2 _ _ _ _ _ _ _ _ _ _ | exact impl_State_stepped.mono _ _ _ _ _ | exact LeO.refl _ | exact LeO.none _ | refine LeO.ite ?_ ?_ | refine LeO.bind ?_ (fun _ => ?_))
    | exact LeO.none _
    | refine LeO.ite ?_ ?_
    | refine LeO.bind ?_ (fun _ => ?_)
theorem impl_statesAfter.mono : ∀ a0 k, LeO (impl_statesAfter.f k a0) (impl_statesAfter.f (k + 1) a0) := by
 intro a0 k
 obtain ⟨ih0, ih1, ih2⟩ := impl_statesAfter.mono_l k
 unfold impl_statesAfter.f
 repeat' first
  | (with_reducible first | exact ih0 _ _ _ | exact ih1 _ _ _ _ _ _ | exact ih2 _ _ _ _ _ _ _ _ _ _ | exact impl_State_stepped.mono _ _ _ _ _ | exact LeO.refl _ | exact LeO.none _ | refine LeO.ite ?_ ?_ | refine LeO.bind ?_ (fun _ => ?_))
  | exact LeO.none _
  | refine LeO.ite ?_ ?_
  | refine LeO.bind ?_ (fun _ => ?_)
theorem impl_statesAfter.calls (k : Nat) (a0 : Int) (r : List (S27)) (w : World) (h : impl_statesAfter.f k a0 = some r) :
 Calls Try.prog 61 #[.int .i64 a0] w fun e w' => ∃ v0_ : Value, e = .returned (v0_) ∧ GN w.heap.size w' w.heap.size (fun k_ => (w.heap.size ≤ k_)) v0_ r ∧ Below w.heap.size w w' := by
 have hu27 := Try.underlying27
 have HB := am (Below.refl w.heap.size w)
 have H : ((impl_StartState.f).bind fun bt405 => (impl_statesAfter.l0 k (([(⟨bt405.1, bt405.2.1, bt405.2.2⟩ : S27)] : List (S27))) a0 0)) = some r := h
 clear h
 replace H := Option.bind_eq_some_iff.mp H
 obtain ⟨⟨t405, t408, t411⟩, A20, H⟩ := H
 replace H : (impl_statesAfter.l0 k (([(⟨t405, t408, t411⟩ : S27)] : List (S27))) a0 0) = some r := H
 have A2 := am A20
 clear A20
 obtain ⟨y412, hy412⟩ : ∃ y_ : List (S27), y_ = (([(⟨t405, t408, t411⟩ : S27)] : List (S27))) := ⟨_, rfl⟩
 replace H : (impl_statesAfter.l0 k y412 a0 0) = some r := by first | (rw [hy412]; with_reducible exact H) | (have H2_ := (Option.bind_some _ _).symm.trans H; rw [hy412]; with_reducible exact H2_) | (have H2_ := (Option.bind_some _ _).symm.trans H; with_reducible exact H2_) | with_reducible exact H | (rw [hy412]; exact H) | exact H
 have Ny412 := am hy412
 clear hy412
 have H' := am H
 clear H
 go_enter Try.func61, Try.ntmps61
 go_wp2_with (first | ((with_reducible refine gate_callee (f := 57) rfl ?_); refine goesL_ (some 10) rfl rfl Try.func57 (by kernel_rfl) rfl #[] rfl (by (try simp only [mT, mC, mZ]); first | done | rfl) ?_; (with_reducible refine (impl_StartState.calls  t405 t408 t411 _ A2.out).mono ?_); rintro e w3 ⟨v406, v409, rfl, ho0, ho1, hb⟩; refine ⟨_, rfl, ?_⟩; have HAP := am ho0.1; have HO407 := am (Kd.R_lower (Kd.R_newM (M := fun k_ => (w.heap.size ≤ k_)) ho0 (below_size (by repeat (with_reducible first | exact HB.out | apply bA | apply bN | apply bD))) (fun k_ h_ => h_)) (below_size (by repeat (with_reducible first | exact HB.out | apply bA | apply bN | apply bD)))); have HO410 := am (Kd.R_lower (Kd.R_newM (M := fun k_ => (w.heap.size ≤ k_)) ho1 (below_size (by repeat (with_reducible first | exact HB.out | apply bA | apply bN | apply bD))) (fun k_ h_ => h_)) (below_size (by repeat (with_reducible first | exact HB.out | apply bA | apply bN | apply bD)))); replace HB := am (below_step (by repeat (with_reducible first | exact HB.out | apply bA | apply bN | apply bD)) hb); (try clear hb); (try clear hb2); (try clear hk); (try clear hi); (try clear ho0); (try clear ho1); obtain ⟨Ao4, co4, eo4⟩ := Kd.R_slice HO407.out; subst eo4; obtain ⟨Ao5, co5, eo5⟩ := Kd.R_slice HO410.out; subst eo5) | ((with_reducible refine gate_dst (N := 11) rfl ?_); refine Kd.N_lit (gSt w.heap.size) _ 27 ?hg (N' := 11) ?hd (xs := [((⟨t405, t408, t411⟩ : S27), (.slice Ao4 t405.length co4 : Value), (.slice Ao5 t408.length co5 : Value))]) (inner := [.slice Ao4 t405.length co4, .slice Ao5 t408.length co5, .int .i64 t411]) (ok := (fun k_ => (w.heap.size ≤ k_))) (okp := (fun k_ => (w.heap.size ≤ k_))) ?hr ?hp (fun _ hk => hk) ((show ∀ k_, w3.heap.size ≤ k_ → (fun k_ => (w.heap.size ≤ k_)) k_ from fun k_ hk => (Nat.le_trans (below_size (by repeat (with_reducible first | exact HB.out | apply bA | apply bN | apply bD))) hk)) _ (Nat.le_refl _)) (Below.refl _ _) (Nat.le_refl _) (by simp) ?_; (case hd => rfl); (case hg => rfl); (case hr => first | (go_simp; done) | (go_simp; rfl)); (case hp => exact (Reps.c3 (show Kd.FK (gSt w.heap.size) _ _ ((⟨t405, t408, t411⟩ : S27), (.slice Ao4 t405.length co4 : Value), (.slice Ao5 t408.length co5 : Value)) [.slice Ao4 t405.length co4, .slice Ao5 t408.length co5, .int .i64 t411] from gSt_mkF (Kd.R_mono (ok' := (fun k_ => (w.heap.size ≤ k_))) (HO407.out) (fun k_ hk => hk.1)) (fun _ h_ => h_) (Kd.R_mono (ok' := (fun k_ => (w.heap.size ≤ k_))) (HO410.out) (fun k_ hk => hk.1)) (fun _ h_ => h_)) (Reps.none _ _))); intro v413 w6 ho7 hb hg_ hnew_; clear hg_ hnew_; have HO414 := am (show GN w.heap.size _ w.heap.size _ _ y412 from ⟨_, (by rw [Ny412.out]; rfl), gSt_one HAP.out _, (Kd.N_lower ho7 (below_size (by repeat (with_reducible first | exact HB.out | apply bA | apply bN | apply bD))))⟩); replace HB := am (below_step (by repeat (with_reducible first | exact HB.out | apply bA | apply bN | apply bD)) hb); clear HO407 HO410; clear hb ho7))
 go_loopg [3, 13] k (fun kq v3 v13 w' => ∃ (x3_1 : List (S27)) (x13_1 : Int), v13 = .int .i64 x13_1 ∧ Aside0 (impl_statesAfter.l0 kq x3_1 a0 x13_1 = some r) ∧ Aside0 (kq ≤ k) ∧ Aside0 (GN w.heap.size w' w.heap.size (fun k_ => (w.heap.size ≤ k_)) v3 x3_1) ∧ Aside0 (Below w.heap.size w w'))
 case atStart => exact ⟨(y412), (0), (by first | rfl | (simp; done) | (simp [*]; done)), H', ⟨Nat.le_refl _⟩, ⟨by (with_reducible repeat (first | apply nA | apply nN | apply nD)); exact HO414.out⟩, ⟨by repeat (with_reducible first | exact HB.out | apply bA | apply bN | apply bD)⟩⟩
 case round =>
  clear H'
  try clear p2
  obtain ⟨x3_1, x13_1, rfl, HA, HK1, HO_3, HB⟩ := hrel
  cases gk with
  | zero => exact absurd HA.out (by simp [impl_statesAfter.l0])
  | succ k1 =>
   have H := HA.out
   clear HA
   simp only [impl_statesAfter.l0] at H
   by_cases c8 : x13_1 < a0
   ·rw [if_pos c8] at H
    replace HO_3 := am HO_3.out.n
    have c8b0 : decide (x13_1 < a0) = true := decide_eq_true c8
    clear c8
    obtain ⟨y415, hy415⟩ : ∃ y_ : List (S27), y_ = (([] : List (S27))) := ⟨_, rfl⟩
    replace H : (impl_statesAfter.l1 k1 y415 a0 x13_1 x3_1 (x3_1.length : Int) 0) = some r := by first | (rw [hy415]; with_reducible exact H) | (have H2_ := (Option.bind_some _ _).symm.trans H; rw [hy415]; with_reducible exact H2_) | (have H2_ := (Option.bind_some _ _).symm.trans H; with_reducible exact H2_) | with_reducible exact H | (rw [hy415]; exact H) | exact H
    have Ny415 := am hy415
    clear hy415
    have H' := am H
    clear H
    go_wp2_with (first | ((with_reducible refine gate_dst (N := 15) rfl ?_); refine Kd.N_lit k27 _ 27 ?hg (N' := 15) ?hd (xs := ([] : List (S27))) (inner := []) (ok := (fun k_ => (w.heap.size ≤ k_) ∧ some k_ ≠ (u3 : Value).ownBlock)) (okp := (fun k_ => (w.heap.size ≤ k_) ∧ some k_ ≠ (u3 : Value).ownBlock)) ?hr ?hp (fun _ hk => hk) ((show ∀ k_, wr.heap.size ≤ k_ → (fun k_ => (w.heap.size ≤ k_) ∧ some k_ ≠ (u3 : Value).ownBlock) k_ from fun k_ hk => ⟨(Nat.le_trans (below_size (by repeat (with_reducible first | exact HB.out | apply bA | apply bN | apply bD))) hk), Kd.fresh' (Kd.N_lt (by (with_reducible repeat (first | apply nA | apply nN | apply nD)); exact HO_3.out)) k_ hk⟩) _ (Nat.le_refl _)) (Below.refl _ _) (Nat.le_refl _) (by simp) ?_; (case hd => rfl); (case hg => rfl); (case hr => first | (go_simp; done) | (go_simp; rfl)); (case hp => exact (Reps.none _ _)); intro v416 w9 ho10 hb hg_ hnew_; clear hg_ hnew_; (first | rw [← Ny415.out] at ho10 | (simp only [Int.reduceToNat] at ho10; rw [← Ny415.out] at ho10)); replace HO_3 := am (Kd.N_elder' (by (with_reducible repeat (first | apply nA | apply nN | apply nD)); exact HO_3.out) (Kd.N_base ho10) hb); have HO417 := am (Kd.N_lower ho10 (below_size (by repeat (with_reducible first | exact HB.out | apply bA | apply bN | apply bD)))); replace HB := am (below_step (by repeat (with_reducible first | exact HB.out | apply bA | apply bN | apply bD)) hb); clear hb ho10; obtain ⟨Ao11, co11, eo11⟩ := Kd.N_slice HO_3.out; subst eo11))
    go_loopg [4, 18] k1 (fun kq v4 v18 w' => ∃ (x4_2 : List (S27)) (x18_2 : Int), v18 = .int .i64 x18_2 ∧ Aside0 (impl_statesAfter.l1 kq x4_2 a0 x13_1 x3_1 (x3_1.length : Int) x18_2 = some r) ∧ Aside0 (kq ≤ k1) ∧ Aside0 (GN w.heap.size w' w.heap.size (fun k_ => (w.heap.size ≤ k_) ∧ some k_ ≠ ((.slice Ao11 x3_1.length co11) : Value).ownBlock) v4 x4_2) ∧ Aside0 (Kd.N k27 27 w' w.heap.size (fun k_ => (w.heap.size ≤ k_) ∧ some k_ ≠ (v4 : Value).ownBlock) (.slice Ao11 x3_1.length co11) x3_1) ∧ Aside0 (Below w.heap.size w w'))
    case atStart => exact ⟨(y415), (0), (by first | rfl | (simp; done) | (simp [*]; done)), H', ⟨Nat.le_refl _⟩, ⟨GN.nil Ny415.out (by (with_reducible repeat (first | apply nA | apply nN | apply nD)); exact HO417.out)⟩, ⟨by (with_reducible repeat (first | apply nA | apply nN | apply nD)); exact HO_3.out⟩, ⟨by repeat (with_reducible first | exact HB.out | apply bA | apply bN | apply bD)⟩⟩
    case round =>
     clear H'
     try clear p2
     try clear p2
     obtain ⟨x4_2, x18_2, rfl, HA, HK2, HO_4, HO_16, HB⟩ := hrel
     obtain ⟨g2, eg_, ag_, hg_⟩ := HO_4.out
     clear HO_4
     have HO_4 := am hg_
     have EG2 := am eg_
     have AG2 := am ag_
     clear eg_ ag_ hg_
     cases gk with
     | zero => exact absurd HA.out (by simp [impl_statesAfter.l1])
     | succ k2 =>
      have H := HA.out
      clear HA
      simp only [impl_statesAfter.l1] at H
      by_cases c12 : x18_2 < (x3_1.length : Int)
      ·rw [if_pos c12] at H
       have c12b0 : decide (x18_2 < (x3_1.length : Int)) = true := decide_eq_true c12
       clear c12
       by_cases c13 : 0 ≤ x18_2
       ·rw [if_pos c13] at H
        have c13b0 : decide (0 ≤ x18_2) = true := decide_eq_true c13
        clear c13
        by_cases c14 : x18_2 < (x3_1.length : Int)
        ·rw [if_pos c14] at H
         have c14b0 : decide (x18_2 < (x3_1.length : Int)) = true := decide_eq_true c14
         clear c14
         have H' := am H
         clear H
         have p424 : 0 ≤ (x18_2 : Int) := ofd (by assumption)
         have q424 : x18_2 < (x3_1.length : Int) := ofd (by assumption)
         obtain ⟨ad424, A424_0, c424_0, A424_1, c424_1, e424, hx424_0, hx424_1, hx424_2, hl424_0, hi424_0, hl424_1, hi424_1⟩ := at_T27 (Kd.N_reads' HO_16.out).2.2 x18_2 p424 q424
         cases e424
         obtain ⟨ce424, hce424, hMe424, hcc424⟩ := Kd.N_get HO_16.out z27 x18_2 p424 (by first | exact q424 | exact ofd (by assumption) | (have e_ := (Kd.N_reads' HO_16.out).1; omega))
         obtain ⟨ua424_0, uc424_0, ua424_1, uc424_1, rfl, ul424_0, ge424_0, ul424_1, ge424_1⟩ := k27_openF hMe424
         have hv424_0 := hcc424 0 _ rfl
         rw [Nat.add_zero] at hv424_0
         replace hv424_0 := Option.some.inj (hv424_0.symm.trans hx424_0)
         injection hv424_0 with hva_ hvn_ hvc_
         rw [hva_] at ge424_0
         rw [hvc_] at ul424_0
         have HL424_0 := am (show Kd.V (Kd.int .i64) 3 _ w.heap.size _ _ ((rd_T27 x3_1 x18_2).f0) from Kd.V_mk ul424_0 ge424_0)
         clear hva_ hvn_ hvc_ ge424_0 ul424_0
         have hv424_1 := hcc424 1 _ rfl
         rw [add_field _ _ 1 (by omega)] at hv424_1
         replace hv424_1 := Option.some.inj (hv424_1.symm.trans hx424_1)
         injection hv424_1 with hva_ hvn_ hvc_
         rw [hva_] at ge424_1
         rw [hvc_] at ul424_1
         have HL424_1 := am (show Kd.V (Kd.int .i64) 3 _ w.heap.size _ _ ((rd_T27 x3_1 x18_2).f1) from Kd.V_mk ul424_1 ge424_1)
         clear hva_ hvn_ hvc_ ge424_1 ul424_1 hcc424 hce424
         have HR424_0 := am hi424_0
         have HC424_0 := am hl424_0
         clear hi424_0 hl424_0
         have HR424_1 := am hi424_1
         have HC424_1 := am hl424_1
         clear hi424_1 hl424_1
         replace p424 := eq_true p424
         replace q424 := eq_true q424
         go_wp2_with (first | ((with_reducible refine gate_dst (N := 6) rfl ?_); refine box_event ?hg (N := 6) ?hd (cs := #[.slice none 0 0, .slice none 0 0, .int .i64 0]) (t := 27) ?hr ?_; (case hd => rfl); (case hg => rfl); (case hr => first | (go_simp; done) | (go_simp; rfl)); intro gb425 hg w15 hbox hb; replace HO_4 := am (Kd.N_below (Kd.N_elderB (by (with_reducible repeat (first | apply nA | apply nN | apply nD)); exact HO_4.out) gb425 (Nat.le_of_eq hg.symm)) hb); replace HO_16 := am (Kd.N_below (Kd.N_elderB (by (with_reducible repeat (first | apply nA | apply nN | apply nD)); exact HO_16.out) gb425 (Nat.le_of_eq hg.symm)) hb); replace HL424_0 := am (Kd.V_below (Kd.V_elderB (by (with_reducible repeat (first | apply vA | apply vN | apply vD)); exact HL424_0.out) gb425 (Nat.le_of_eq hg.symm)) hb); replace HL424_1 := am (Kd.V_below (Kd.V_elderB (by (with_reducible repeat (first | apply vA | apply vN | apply vD)); exact HL424_1.out) gb425 (Nat.le_of_eq hg.symm)) hb); replace HR424_0 := am (Kd.C_below (by repeat (first | (with_reducible exact HR424_0.out) | (with_reducible first | apply cA | apply cN | apply cD) | exact HR424_0.out)) hb); replace HR424_1 := am (Kd.C_below (by repeat (first | (with_reducible exact HR424_1.out) | (with_reducible first | apply cA | apply cN | apply cD) | exact HR424_1.out)) hb); have BK425 := am (hbox); have GW425 := am ((by rw [hg]; exact (below_size (by repeat (with_reducible first | exact HB.out | apply bA | apply bN | apply bD))) : w.heap.size ≤ gb425)); have GE425 := am ((by rw [hg]; exact (below_size (by repeat (with_reducible first | exact HB.out | apply bA | apply bN | apply bD))) : w.heap.size ≤ gb425)); replace HB := am (below_step (by repeat (with_reducible first | exact HB.out | apply bA | apply bN | apply bD)) hb); clear hb hbox hg; have hcz16_0 : w15.cell? ⟨gb425, 0, none⟩ = some (.slice none 0 0) := (blk_cell BK425.out 0).trans rfl; have hcz16_1 : w15.cell? ⟨gb425, 1, none⟩ = some (.slice none 0 0) := (blk_cell BK425.out 1).trans rfl; have hcz16_2 : w15.cell? ⟨gb425, 2, none⟩ = some (.int .i64 0) := (blk_cell BK425.out 2).trans rfl; have hfz16_0 := blk_frozen BK425.out 0; have hfz16_1 := blk_frozen BK425.out 1; have hfz16_2 := blk_frozen BK425.out 2))
         go_loopg [4, 22] k2 (fun kq v4 v22 w' => ∃ (x4_3 : List (S27)) (x22_3 : Int), v22 = .int .i64 x22_3 ∧ Aside0 (impl_statesAfter.l2 kq x4_3 a0 x13_1 x3_1 (x3_1.length : Int) x18_2 x22_3 ((rd_T27 x3_1 x18_2).f0) ((rd_T27 x3_1 x18_2).f1) ((rd_T27 x3_1 x18_2).f2) = some r) ∧ Aside0 (kq ≤ k2) ∧ Aside0 (GN w.heap.size w' w.heap.size (fun k_ => (w.heap.size ≤ k_) ∧ some k_ ≠ ((.slice (some ad424) x3_1.length co11) : Value).ownBlock ∧ k_ ≠ gb425) v4 x4_3) ∧ Aside0 (Kd.N k27 27 w' w.heap.size (fun k_ => (w.heap.size ≤ k_) ∧ some k_ ≠ (v4 : Value).ownBlock ∧ k_ ≠ gb425) (.slice (some ad424) x3_1.length co11) x3_1) ∧ Aside0 (Kd.V (Kd.int .i64) 3 w' w.heap.size (fun k_ => (w.heap.size ≤ k_) ∧ some k_ ≠ (v4 : Value).ownBlock ∧ some k_ ≠ ((.slice (some ad424) x3_1.length co11) : Value).ownBlock ∧ k_ ≠ gb425) (.slice A424_0 ((rd_T27 x3_1 x18_2).f0).length c424_0) ((rd_T27 x3_1 x18_2).f0)) ∧ Aside0 (Kd.V (Kd.int .i64) 3 w' w.heap.size (fun k_ => (w.heap.size ≤ k_) ∧ some k_ ≠ (v4 : Value).ownBlock ∧ some k_ ≠ ((.slice (some ad424) x3_1.length co11) : Value).ownBlock ∧ k_ ≠ gb425) (.slice A424_1 ((rd_T27 x3_1 x18_2).f1).length c424_1) ((rd_T27 x3_1 x18_2).f1)) ∧ Aside0 (w'.heap[gb425]? = some (.cells #[(.slice A424_0 ((rd_T27 x3_1 x18_2).f0).length c424_0), (.slice A424_1 ((rd_T27 x3_1 x18_2).f1).length c424_1), .int .i64 ((rd_T27 x3_1 x18_2).f2)] 27 (0, 0))) ∧ Aside0 (Below w.heap.size w w'))
         case atStart => exact ⟨(x4_2), (0), (by first | rfl | (simp; done) | (simp [*]; done)), H', ⟨Nat.le_refl _⟩, ⟨⟨g2, EG2.out, AG2.out, (by (with_reducible repeat (first | apply nA | apply nN | apply nD)); exact Kd.N_mono (Kd.N_far (p := ⟨gb425, 2, none⟩) (Kd.N_far (p := ⟨gb425, 1, none⟩) (Kd.N_far (p := ⟨gb425, 0, none⟩) (Kd.N_mono HO_4.out (fun k_ hk => (⟨hk, hk.2⟩ : _ ∧ k_ ≠ gb425))) (fun _ hk => hk.2) (.slice A424_0 ((rd_T27 x3_1 x18_2).f0).length c424_0)) (fun _ hk => hk.2) (.slice A424_1 ((rd_T27 x3_1 x18_2).f1).length c424_1)) (fun _ hk => hk.2) (.int .i64 ((rd_T27 x3_1 x18_2).f2))) (fun _ hk => ⟨hk.1.1.1, ⟨hk.1.1.2, hk.1.2⟩⟩))⟩⟩, ⟨by (with_reducible repeat (first | apply nA | apply nN | apply nD)); exact Kd.N_mono (Kd.N_far (p := ⟨gb425, 2, none⟩) (Kd.N_far (p := ⟨gb425, 1, none⟩) (Kd.N_far (p := ⟨gb425, 0, none⟩) (Kd.N_mono HO_16.out (fun k_ hk => (⟨hk, hk.2⟩ : _ ∧ k_ ≠ gb425))) (fun _ hk => hk.2) (.slice A424_0 ((rd_T27 x3_1 x18_2).f0).length c424_0)) (fun _ hk => hk.2) (.slice A424_1 ((rd_T27 x3_1 x18_2).f1).length c424_1)) (fun _ hk => hk.2) (.int .i64 ((rd_T27 x3_1 x18_2).f2))) (fun _ hk => ⟨hk.1.1.1, ⟨hk.1.1.2, hk.1.2⟩⟩)⟩, ⟨by (with_reducible repeat (first | apply vA | apply vN | apply vD)); exact Kd.V_mono (Kd.V_far (p := ⟨gb425, 2, none⟩) (Kd.V_far (p := ⟨gb425, 1, none⟩) (Kd.V_far (p := ⟨gb425, 0, none⟩) (Kd.V_mono HL424_0.out (fun k_ hk => (⟨hk, hk.2⟩ : _ ∧ k_ ≠ gb425))) (fun _ hk => hk.2) (.slice A424_0 ((rd_T27 x3_1 x18_2).f0).length c424_0)) (fun _ hk => hk.2) (.slice A424_1 ((rd_T27 x3_1 x18_2).f1).length c424_1)) (fun _ hk => hk.2) (.int .i64 ((rd_T27 x3_1 x18_2).f2))) (fun _ hk => ⟨hk.1.1.1.1, ⟨hk.1.1.1.2, ⟨hk.1.1.2, hk.1.2⟩⟩⟩)⟩, ⟨by (with_reducible repeat (first | apply vA | apply vN | apply vD)); exact Kd.V_mono (Kd.V_far (p := ⟨gb425, 2, none⟩) (Kd.V_far (p := ⟨gb425, 1, none⟩) (Kd.V_far (p := ⟨gb425, 0, none⟩) (Kd.V_mono HL424_1.out (fun k_ hk => (⟨hk, hk.2⟩ : _ ∧ k_ ≠ gb425))) (fun _ hk => hk.2) (.slice A424_0 ((rd_T27 x3_1 x18_2).f0).length c424_0)) (fun _ hk => hk.2) (.slice A424_1 ((rd_T27 x3_1 x18_2).f1).length c424_1)) (fun _ hk => hk.2) (.int .i64 ((rd_T27 x3_1 x18_2).f2))) (fun _ hk => ⟨hk.1.1.1.1, ⟨hk.1.1.1.2, ⟨hk.1.1.2, hk.1.2⟩⟩⟩)⟩, ⟨by (with_reducible repeat (first | apply kB | apply kC | apply kE)); refine blk_put (cs := #[.slice A424_0 ((rd_T27 x3_1 x18_2).f0).length c424_0, .slice A424_1 ((rd_T27 x3_1 x18_2).f1).length c424_1, .int .i64 0]) ?_ 2 _ rfl; (with_reducible repeat (first | apply kB | apply kC | apply kE)); refine blk_put (cs := #[.slice A424_0 ((rd_T27 x3_1 x18_2).f0).length c424_0, .slice none 0 0, .int .i64 0]) ?_ 1 _ rfl; (with_reducible repeat (first | apply kB | apply kC | apply kE)); refine blk_put (cs := #[.slice none 0 0, .slice none 0 0, .int .i64 0]) ?_ 0 _ rfl; (with_reducible repeat (first | apply kB | apply kC | apply kE)); exact BK425.out⟩, ⟨by repeat (with_reducible first | exact HB.out | apply bA | apply bN | apply bD | refine bS ?_ GE425.out)⟩⟩
         case round =>
          clear H'
          try clear p2
          try clear p4
          try clear q4
          try clear hx4
          try clear hcz16_0
          try clear hcz16_1
          try clear hcz16_2
          try clear hfz16_0
          try clear hfz16_1
          try clear hfz16_2
          try clear hx424_0
          try clear hx424_1
          try clear hx424_2
          try clear p2
          try clear p424
          try clear q424
          obtain ⟨x4_3, x22_3, rfl, HA, HK3, HO_4, HO_16, HO_426000, HO_426001, BK425, HB⟩ := hrel
          obtain ⟨g3, eg_, ag_, hg_⟩ := HO_4.out
          clear HO_4
          have HO_4 := am hg_
          have EG3 := am eg_
          have AG3 := am ag_
          clear eg_ ag_ hg_
          cases gk with
          | zero => exact absurd HA.out (by simp [impl_statesAfter.l2])
          | succ k3 =>
           have H := HA.out
           clear HA
           simp only [impl_statesAfter.l2] at H
           by_cases c17 : x22_3 < 4
           ·rw [if_pos c17] at H
            have c17b0 : decide (x22_3 < 4) = true := decide_eq_true c17
            clear c17
            replace H := Option.bind_eq_some_iff.mp H
            obtain ⟨⟨t426, t429, t432, t433⟩, A180, H⟩ := H
            replace H : (if t433 = true then (if t432 = 0 then (if x4_3.length < 2513169434916 then (impl_statesAfter.l2 k3 (x4_3 ++ [(⟨t426, t429, t432⟩ : S27)]) a0 x13_1 x3_1 (x3_1.length : Int) x18_2 (wrap64 (x22_3 + 1)) ((rd_T27 x3_1 x18_2).f0) ((rd_T27 x3_1 x18_2).f1) ((rd_T27 x3_1 x18_2).f2)) else (none)) else (impl_statesAfter.l2 k3 x4_3 a0 x13_1 x3_1 (x3_1.length : Int) x18_2 (wrap64 (x22_3 + 1)) ((rd_T27 x3_1 x18_2).f0) ((rd_T27 x3_1 x18_2).f1) ((rd_T27 x3_1 x18_2).f2))) else (impl_statesAfter.l2 k3 x4_3 a0 x13_1 x3_1 (x3_1.length : Int) x18_2 (wrap64 (x22_3 + 1)) ((rd_T27 x3_1 x18_2).f0) ((rd_T27 x3_1 x18_2).f1) ((rd_T27 x3_1 x18_2).f2))) = some r := H
            have A18 := am A180
            clear A180
            by_cases c19 : t433 = true
            ·subst c19
             have H1 : (if t432 = 0 then (if x4_3.length < 2513169434916 then (impl_statesAfter.l2 k3 (x4_3 ++ [(⟨t426, t429, t432⟩ : S27)]) a0 x13_1 x3_1 (x3_1.length : Int) x18_2 (wrap64 (x22_3 + 1)) ((rd_T27 x3_1 x18_2).f0) ((rd_T27 x3_1 x18_2).f1) ((rd_T27 x3_1 x18_2).f2)) else (none)) else (impl_statesAfter.l2 k3 x4_3 a0 x13_1 x3_1 (x3_1.length : Int) x18_2 (wrap64 (x22_3 + 1)) ((rd_T27 x3_1 x18_2).f0) ((rd_T27 x3_1 x18_2).f1) ((rd_T27 x3_1 x18_2).f2))) = some r := by rw [if_pos rfl] at H; exact H
             clear H
             have H := H1
             clear H1
             by_cases c20 : t432 = 0
             ·rw [if_pos c20] at H
              have c20b0 : (t432 == 0) = true := beq_iff_eq.mpr c20
              have c20b1 : (t432 != 0) = false := bne_eq_false_iff_eq.mpr c20
              clear c20
              replace H : (if x4_3.length < 2513169434916 then (impl_statesAfter.l2 k3 (x4_3 ++ [(⟨t426, t429, t432⟩ : S27)]) a0 x13_1 x3_1 (x3_1.length : Int) x18_2 (wrap64 (x22_3 + 1)) ((rd_T27 x3_1 x18_2).f0) ((rd_T27 x3_1 x18_2).f1) ((rd_T27 x3_1 x18_2).f2)) else (none)) = some r := H
              by_cases c22 : x4_3.length < 2513169434916
              ·rw [if_pos c22] at H
               have LMc22 := am c22
               clear c22
               obtain ⟨y436, hy436⟩ : ∃ y_ : List (S27), y_ = (x4_3 ++ [(⟨t426, t429, t432⟩ : S27)]) := ⟨_, rfl⟩
               replace H : (impl_statesAfter.l2 k3 y436 a0 x13_1 x3_1 (x3_1.length : Int) x18_2 (wrap64 (x22_3 + 1)) ((rd_T27 x3_1 x18_2).f0) ((rd_T27 x3_1 x18_2).f1) ((rd_T27 x3_1 x18_2).f2)) = some r := by first | (rw [hy436]; with_reducible exact H) | (have H2_ := (Option.bind_some _ _).symm.trans H; rw [hy436]; with_reducible exact H2_) | (have H2_ := (Option.bind_some _ _).symm.trans H; with_reducible exact H2_) | with_reducible exact H | (rw [hy436]; exact H) | exact H
               have Ny436 := am hy436
               clear hy436
               have H' := am H
               clear H
               have hcz23_0 : wr.cell? ⟨gb425, 0, none⟩ = some (.slice A424_0 ((rd_T27 x3_1 x18_2).f0).length c424_0) := (blk_cell BK425.out 0).trans rfl
               have hcz23_1 : wr.cell? ⟨gb425, 1, none⟩ = some (.slice A424_1 ((rd_T27 x3_1 x18_2).f1).length c424_1) := (blk_cell BK425.out 1).trans rfl
               have hcz23_2 : wr.cell? ⟨gb425, 2, none⟩ = some (.int .i64 ((rd_T27 x3_1 x18_2).f2)) := (blk_cell BK425.out 2).trans rfl
               have hfz23_0 := blk_frozen BK425.out 0
               have hfz23_1 := blk_frozen BK425.out 1
               have hfz23_2 := blk_frozen BK425.out 2
               go_wp2_with (first | ((with_reducible refine gate_callee (f := 59) rfl ?_); refine goesL_ (some 28) rfl rfl Try.func59 (by kernel_rfl) rfl #[.agg #[.slice A424_0 ((rd_T27 x3_1 x18_2).f0).length c424_0, .slice A424_1 ((rd_T27 x3_1 x18_2).f1).length c424_1, .int .i64 ((rd_T27 x3_1 x18_2).f2)], .int .i64 x22_3] rfl (by (try simp only [mT, mC, mZ]); first | done | rfl) ?_; (with_reducible refine (impl_State_stepped.calls k3 _ _ ((rd_T27 x3_1 x18_2).f0) _ _ ((rd_T27 x3_1 x18_2).f1) ((rd_T27 x3_1 x18_2).f2) x22_3 t426 t429 t432 true _ ?side1 ?side2 ?side3 ?side4 A18.out).mono ?_); (case side1 => repeat (first | exact (Kd.V_reads' HO_426000.out).2.2 | (with_reducible first | apply cA | apply cN | apply cD))); (case side2 => exact (Kd.V_reads' HO_426000.out).2.1); (case side3 => repeat (first | exact (Kd.V_reads' HO_426001.out).2.2 | (with_reducible first | apply cA | apply cN | apply cD))); (case side4 => exact (Kd.V_reads' HO_426001.out).2.1); rintro e w24 ⟨v427, v430, rfl, ho0, ho1, hb⟩; refine ⟨_, rfl, ?_⟩; have HAPN := am (gSt_app AG3.out (by (with_reducible repeat (first | apply nA | apply nN | apply nD)); exact HO_4.out) hb ho0 ho1); replace HO_4 := am (Kd.N_mono (Kd.N_told (Kd.N_told (Kd.N_old (by (with_reducible repeat (first | apply nA | apply nN | apply nD)); exact HO_4.out) hb) (Kd.R_base ho0)) (Kd.R_base ho1)) (fun _ h_ => h_.1)); replace HO_16 := am (Kd.N_mono (Kd.N_told (Kd.N_told (Kd.N_old (by (with_reducible repeat (first | apply nA | apply nN | apply nD)); exact HO_16.out) hb) (Kd.R_base ho0)) (Kd.R_base ho1)) (fun _ h_ => h_.1)); replace HO_426000 := am (Kd.V_mono (Kd.V_told (Kd.V_told (Kd.V_old (by (with_reducible repeat (first | apply vA | apply vN | apply vD)); exact HO_426000.out) hb) (Kd.R_base ho0)) (Kd.R_base ho1)) (fun _ h_ => h_.1)); replace HO_426001 := am (Kd.V_mono (Kd.V_told (Kd.V_told (Kd.V_old (by (with_reducible repeat (first | apply vA | apply vN | apply vD)); exact HO_426001.out) hb) (Kd.R_base ho0)) (Kd.R_base ho1)) (fun _ h_ => h_.1)); have HO428 := am (Kd.R_lower (Kd.R_newM (M := fun k_ => (w.heap.size ≤ k_)) ho0 (below_size (by repeat (with_reducible first | exact HB.out | apply bA | apply bN | apply bD | refine bS ?_ GE425.out))) (fun k_ h_ => h_)) (below_size (by repeat (with_reducible first | exact HB.out | apply bA | apply bN | apply bD | refine bS ?_ GE425.out)))); have HO431 := am (Kd.R_lower (Kd.R_newM (M := fun k_ => (w.heap.size ≤ k_)) ho1 (below_size (by repeat (with_reducible first | exact HB.out | apply bA | apply bN | apply bD | refine bS ?_ GE425.out))) (fun k_ h_ => h_)) (below_size (by repeat (with_reducible first | exact HB.out | apply bA | apply bN | apply bD | refine bS ?_ GE425.out)))); replace BK425 := am (blk_below (g := gb425) (o := .cells #[.slice A424_0 ((rd_T27 x3_1 x18_2).f0).length c424_0, .slice A424_1 ((rd_T27 x3_1 x18_2).f1).length c424_1, .int .i64 ((rd_T27 x3_1 x18_2).f2)] 27 (0, 0)) (by (with_reducible repeat (first | apply kB | apply kC | apply kE)); exact BK425.out) hb); replace HB := am (below_step (by repeat (with_reducible first | exact HB.out | apply bA | apply bN | apply bD | refine bS ?_ GE425.out)) hb); (try clear hb); (try clear hb2); (try clear hk); (try clear hi); (try clear ho0); (try clear ho1)) | ((with_reducible refine gate_dst (N := 8) rfl ?_); refine box_event ?hg (N := 8) ?hd (cs := #[.slice none 0 0, .slice none 0 0, .int .i64 0]) (t := 27) ?hr ?_; (case hd => rfl); (case hg => rfl); (case hr => first | (go_simp; done) | (go_simp; rfl)); intro gb434 hg w25 hbox hb; replace HO_4 := am (Kd.N_below (Kd.N_elderB (by (with_reducible repeat (first | apply nA | apply nN | apply nD)); exact HO_4.out) gb434 (Nat.le_of_eq hg.symm)) hb); replace HO_16 := am (Kd.N_below (Kd.N_elderB (by (with_reducible repeat (first | apply nA | apply nN | apply nD)); exact HO_16.out) gb434 (Nat.le_of_eq hg.symm)) hb); replace HO_426000 := am (Kd.V_below (Kd.V_elderB (by (with_reducible repeat (first | apply vA | apply vN | apply vD)); exact HO_426000.out) gb434 (Nat.le_of_eq hg.symm)) hb); replace HO_426001 := am (Kd.V_below (Kd.V_elderB (by (with_reducible repeat (first | apply vA | apply vN | apply vD)); exact HO_426001.out) gb434 (Nat.le_of_eq hg.symm)) hb); replace HO428 := am (Kd.R_below (by (with_reducible repeat (first | apply rA | apply rN | apply rD)); exact HO428.out) hb); replace HO431 := am (Kd.R_below (by (with_reducible repeat (first | apply rA | apply rN | apply rD)); exact HO431.out) hb); have BK434 := am (hbox); have GW434 := am ((by rw [hg]; exact (below_size (by repeat (with_reducible first | exact HB.out | apply bA | apply bN | apply bD | refine bS ?_ GE425.out))) : w.heap.size ≤ gb434)); have GE434 := am ((by rw [hg]; exact (below_size (by repeat (with_reducible first | exact HB.out | apply bA | apply bN | apply bD | refine bS ?_ GE425.out))) : w.heap.size ≤ gb434)); replace HB := am (below_step (by repeat (with_reducible first | exact HB.out | apply bA | apply bN | apply bD | refine bS ?_ GE425.out)) hb); have NB425_434 := am ((by rw [hg]; exact Nat.ne_of_lt (blk_lt (g := gb425) (o := .cells #[.slice A424_0 ((rd_T27 x3_1 x18_2).f0).length c424_0, .slice A424_1 ((rd_T27 x3_1 x18_2).f1).length c424_1, .int .i64 ((rd_T27 x3_1 x18_2).f2)] 27 (0, 0)) (by (with_reducible repeat (first | apply kB | apply kC | apply kE)); exact BK425.out)) : gb425 ≠ gb434)); have NB434_425 := am ((by rw [hg]; exact Nat.ne_of_gt (blk_lt (g := gb425) (o := .cells #[.slice A424_0 ((rd_T27 x3_1 x18_2).f0).length c424_0, .slice A424_1 ((rd_T27 x3_1 x18_2).f1).length c424_1, .int .i64 ((rd_T27 x3_1 x18_2).f2)] 27 (0, 0)) (by (with_reducible repeat (first | apply kB | apply kC | apply kE)); exact BK425.out)) : gb434 ≠ gb425)); replace BK425 := am (blk_below (g := gb425) (o := .cells #[.slice A424_0 ((rd_T27 x3_1 x18_2).f0).length c424_0, .slice A424_1 ((rd_T27 x3_1 x18_2).f1).length c424_1, .int .i64 ((rd_T27 x3_1 x18_2).f2)] 27 (0, 0)) (by (with_reducible repeat (first | apply kB | apply kC | apply kE)); exact BK425.out) hb); clear hb hbox hg; obtain ⟨Ao26, co26, eo26⟩ := Kd.R_slice HO428.out; subst eo26; have hnb27 := NB434_425.out; have hnc27 := NB425_434.out; have hcz28_0 : w25.cell? ⟨gb434, 0, none⟩ = some (.slice none 0 0) := (blk_cell BK434.out 0).trans rfl; have hcz28_1 : w25.cell? ⟨gb434, 1, none⟩ = some (.slice none 0 0) := (blk_cell BK434.out 1).trans rfl; have hcz28_2 : w25.cell? ⟨gb434, 2, none⟩ = some (.int .i64 0) := (blk_cell BK434.out 2).trans rfl; have hfz28_0 := blk_frozen BK434.out 0; have hfz28_1 := blk_frozen BK434.out 1; have hfz28_2 := blk_frozen BK434.out 2; obtain ⟨Ao29, co29, eo29⟩ := Kd.R_slice HO431.out; subst eo29) | ((with_reducible refine gate_store (t := 27) (p := 8) rfl ?_); refine store_event (t := 27) (p := 8) (v := ?vo_w30) (w1 := (((w25.setCell ⟨gb434, 0, none⟩ (.slice Ao26 t426.length co26)).setCell ⟨gb434, 1, none⟩ (.slice Ao29 t429.length co29)).setCell ⟨gb434, 2, none⟩ (.int .i64 t432))) ?hg ?ho ?hn ?hr ?_; (case ho => rfl); (case hg => rfl); (case hn => rfl); (case hr => first | (go_simp; done) | (go_simp; rfl)); intro w30 hw; have hb : Below (((w25.setCell ⟨gb434, 0, none⟩ (.slice Ao26 t426.length co26)).setCell ⟨gb434, 1, none⟩ (.slice Ao29 t429.length co29)).setCell ⟨gb434, 2, none⟩ (.int .i64 t432)).heap.size (((w25.setCell ⟨gb434, 0, none⟩ (.slice Ao26 t426.length co26)).setCell ⟨gb434, 1, none⟩ (.slice Ao29 t429.length co29)).setCell ⟨gb434, 2, none⟩ (.int .i64 t432)) w30 := (by rw [hw]; exact Below.refl _ _); clear hw; replace HO_4 := am (Kd.N_below (by (with_reducible repeat (first | apply nA | apply nN | apply nD)); exact (Kd.N_mono (Kd.N_far (p := ⟨gb434, 2, none⟩) (Kd.N_far (p := ⟨gb434, 1, none⟩) (Kd.N_far (p := ⟨gb434, 0, none⟩) (Kd.N_mono HO_4.out (fun k_ hk => (⟨hk, hk.2⟩ : _ ∧ k_ ≠ gb434))) (fun _ hk => hk.2) (.slice Ao26 t426.length co26)) (fun _ hk => hk.2) (.slice Ao29 t429.length co29)) (fun _ hk => hk.2) (.int .i64 t432)) (fun _ h_ => h_.1))) hb); replace HO_16 := am (Kd.N_below (by (with_reducible repeat (first | apply nA | apply nN | apply nD)); exact (Kd.N_mono (Kd.N_far (p := ⟨gb434, 2, none⟩) (Kd.N_far (p := ⟨gb434, 1, none⟩) (Kd.N_far (p := ⟨gb434, 0, none⟩) (Kd.N_mono HO_16.out (fun k_ hk => (⟨hk, hk.2⟩ : _ ∧ k_ ≠ gb434))) (fun _ hk => hk.2) (.slice Ao26 t426.length co26)) (fun _ hk => hk.2) (.slice Ao29 t429.length co29)) (fun _ hk => hk.2) (.int .i64 t432)) (fun _ h_ => h_.1))) hb); replace HO_426000 := am (Kd.V_below (by (with_reducible repeat (first | apply vA | apply vN | apply vD)); exact (Kd.V_mono (Kd.V_far (p := ⟨gb434, 2, none⟩) (Kd.V_far (p := ⟨gb434, 1, none⟩) (Kd.V_far (p := ⟨gb434, 0, none⟩) (Kd.V_mono HO_426000.out (fun k_ hk => (⟨hk, hk.2⟩ : _ ∧ k_ ≠ gb434))) (fun _ hk => hk.2) (.slice Ao26 t426.length co26)) (fun _ hk => hk.2) (.slice Ao29 t429.length co29)) (fun _ hk => hk.2) (.int .i64 t432)) (fun _ h_ => h_.1))) hb); replace HO_426001 := am (Kd.V_below (by (with_reducible repeat (first | apply vA | apply vN | apply vD)); exact (Kd.V_mono (Kd.V_far (p := ⟨gb434, 2, none⟩) (Kd.V_far (p := ⟨gb434, 1, none⟩) (Kd.V_far (p := ⟨gb434, 0, none⟩) (Kd.V_mono HO_426001.out (fun k_ hk => (⟨hk, hk.2⟩ : _ ∧ k_ ≠ gb434))) (fun _ hk => hk.2) (.slice Ao26 t426.length co26)) (fun _ hk => hk.2) (.slice Ao29 t429.length co29)) (fun _ hk => hk.2) (.int .i64 t432)) (fun _ h_ => h_.1))) hb); replace HO428 := am (Kd.R_below (by (with_reducible repeat (first | apply rA | apply rN | apply rD)); exact (Kd.R_mono (Kd.R_far (p := ⟨gb434, 2, none⟩) (Kd.R_far (p := ⟨gb434, 1, none⟩) (Kd.R_far (p := ⟨gb434, 0, none⟩) (Kd.R_types HO428.out BK434.out (by decide)) (fun _ hk => hk.2) (.slice Ao26 t426.length co26)) (fun _ hk => hk.2) (.slice Ao29 t429.length co29)) (fun _ hk => hk.2) (.int .i64 t432)) (fun _ h_ => h_.1))) hb); replace HO431 := am (Kd.R_below (by (with_reducible repeat (first | apply rA | apply rN | apply rD)); exact (Kd.R_mono (Kd.R_far (p := ⟨gb434, 2, none⟩) (Kd.R_far (p := ⟨gb434, 1, none⟩) (Kd.R_far (p := ⟨gb434, 0, none⟩) (Kd.R_types HO431.out BK434.out (by decide)) (fun _ hk => hk.2) (.slice Ao26 t426.length co26)) (fun _ hk => hk.2) (.slice Ao29 t429.length co29)) (fun _ hk => hk.2) (.int .i64 t432)) (fun _ h_ => h_.1))) hb); replace BK425 := am (blk_below (g := gb425) (o := .cells #[.slice A424_0 ((rd_T27 x3_1 x18_2).f0).length c424_0, .slice A424_1 ((rd_T27 x3_1 x18_2).f1).length c424_1, .int .i64 ((rd_T27 x3_1 x18_2).f2)] 27 (0, 0)) (by (with_reducible repeat (first | apply kB | apply kC | apply kE)); refine blk_far ?_ NB425_434.out _; (with_reducible repeat (first | apply kB | apply kC | apply kE)); refine blk_far ?_ NB425_434.out _; (with_reducible repeat (first | apply kB | apply kC | apply kE)); refine blk_far ?_ NB425_434.out _; (with_reducible repeat (first | apply kB | apply kC | apply kE)); exact BK425.out) hb); replace BK434 := am (blk_below (g := gb434) (o := .cells #[.slice Ao26 t426.length co26, .slice Ao29 t429.length co29, .int .i64 t432] 27 (0, 0)) (by (with_reducible repeat (first | apply kB | apply kC | apply kE)); refine blk_put (cs := #[.slice Ao26 t426.length co26, .slice Ao29 t429.length co29, .int .i64 0]) ?_ 2 _ rfl; (with_reducible repeat (first | apply kB | apply kC | apply kE)); refine blk_put (cs := #[.slice Ao26 t426.length co26, .slice none 0 0, .int .i64 0]) ?_ 1 _ rfl; (with_reducible repeat (first | apply kB | apply kC | apply kE)); refine blk_put (cs := #[.slice none 0 0, .slice none 0 0, .int .i64 0]) ?_ 0 _ rfl; (with_reducible repeat (first | apply kB | apply kC | apply kE)); exact BK434.out) hb); replace HB := am (below_step (by repeat (with_reducible first | exact HB.out | apply bA | apply bN | apply bD | refine bS ?_ GE425.out | refine bS ?_ GE434.out)) hb); (try clear hb); (try clear hb2); (try clear hk); (try clear hi); have hcz31_0 : w30.cell? ⟨gb434, 0, none⟩ = some (.slice Ao26 t426.length co26) := (blk_cell BK434.out 0).trans rfl; have hcz31_1 : w30.cell? ⟨gb434, 1, none⟩ = some (.slice Ao29 t429.length co29) := (blk_cell BK434.out 1).trans rfl; have hcz31_2 : w30.cell? ⟨gb434, 2, none⟩ = some (.int .i64 t432) := (blk_cell BK434.out 2).trans rfl; have hfz31_0 := blk_frozen BK434.out 0; have hfz31_1 := blk_frozen BK434.out 1; have hfz31_2 := blk_frozen BK434.out 2) | ((with_reducible refine gate_builtin (b := .append) (xs := #[.tmp 37, .tmp 39]) rfl ?_); at_builtin; refine Kd.N_append (gSt w.heap.size) (w0 := w) w.heap.size rfl (.tmp 37) (.tmp 39) 49 27 (.agg #[(.slice none 0 0), (.slice none 0 0), (.int .i64 0)]) 56 rfl Try.underlying49 info27 rfl (Nat.succ_pos 2) (by omega) u4 g3 ((⟨t426, t429, t432⟩ : S27), (.slice Ao26 t426.length co26 : Value), (.slice Ao29 t429.length co29 : Value)) [.slice Ao26 t426.length co26, .slice Ao29 t429.length co29, .int .i64 t432] (fun k_ => (w.heap.size ≤ k_) ∧ some k_ ≠ (.slice (some ad424) x3_1.length co11 : Value).ownBlock ∧ k_ ≠ gb425 ∧ k_ ≠ gb434) (fun k_ => ((fun k_ => (w.heap.size ≤ k_) ∧ some k_ ≠ (.slice (some ad424) x3_1.length co11 : Value).ownBlock ∧ k_ ≠ gb425 ∧ k_ ≠ gb434)) k_ ∧ some k_ ≠ (u4 : Value).ownBlock) rfl rfl ?aP (fun _ hk => hk) ?aF ?aO ?aB ?aS ?aL ?_; (case aP => exact gSt_mkF (Kd.R_mono (ok' := (fun k_ => ((fun k_ => (w.heap.size ≤ k_) ∧ some k_ ≠ (.slice (some ad424) x3_1.length co11 : Value).ownBlock ∧ k_ ≠ gb425 ∧ k_ ≠ gb434)) k_ ∧ some k_ ≠ (u4 : Value).ownBlock)) (Kd.R_types (Kd.R_types (Kd.R_apart' (Kd.R_apart' (HO428.out) (Kd.N_typed HO_16.out) (by decide)) (Kd.N_typed HO_4.out) (by decide)) BK425.out (by decide)) BK434.out (by decide)) (fun k_ hk => ⟨⟨hk.1.1.1.1.1, ⟨hk.1.1.1.2, ⟨hk.1.2, hk.2⟩⟩⟩, hk.1.1.2⟩)) (fun _ h_ => h_) (Kd.R_mono (ok' := (fun k_ => ((fun k_ => (w.heap.size ≤ k_) ∧ some k_ ≠ (.slice (some ad424) x3_1.length co11 : Value).ownBlock ∧ k_ ≠ gb425 ∧ k_ ≠ gb434)) k_ ∧ some k_ ≠ (u4 : Value).ownBlock)) (Kd.R_types (Kd.R_types (Kd.R_apart' (Kd.R_apart' (HO431.out) (Kd.N_typed HO_16.out) (by decide)) (Kd.N_typed HO_4.out) (by decide)) BK425.out (by decide)) BK434.out (by decide)) (fun k_ hk => ⟨⟨hk.1.1.1.1.1, ⟨hk.1.1.1.2, ⟨hk.1.2, hk.2⟩⟩⟩, hk.1.1.2⟩)) (fun _ h_ => h_)); (case aB => exact (by repeat (with_reducible first | exact HB.out | apply bA | apply bN | apply bD | refine bS ?_ GE425.out | refine bS ?_ GE434.out))); (case aF => exact (fun k_ hk => ⟨(Nat.le_trans (below_size (by repeat (with_reducible first | exact HB.out | apply bA | apply bN | apply bD | refine bS ?_ GE425.out | refine bS ?_ GE434.out))) hk), Kd.fresh' (Kd.N_lt (by (with_reducible repeat (first | apply nA | apply nN | apply nD)); exact HO_16.out)) k_ hk, Kd.freshB (g := gb425) (o := .cells #[.slice A424_0 ((rd_T27 x3_1 x18_2).f0).length c424_0, .slice A424_1 ((rd_T27 x3_1 x18_2).f1).length c424_1, .int .i64 ((rd_T27 x3_1 x18_2).f2)] 27 (0, 0)) (by (with_reducible repeat (first | apply kB | apply kC | apply kE)); exact BK425.out) k_ hk, Kd.freshB (g := gb434) (o := .cells #[.slice Ao26 t426.length co26, .slice Ao29 t429.length co29, .int .i64 t432] 27 (0, 0)) (by (with_reducible repeat (first | apply kB | apply kC | apply kE)); exact BK434.out) k_ hk⟩)); (case aO => exact (by (with_reducible repeat (first | apply nA | apply nN | apply nD)); exact Kd.N_mono HO_4.out (fun _ hk => ⟨hk.1.1.1.1, ⟨hk.1.1.1.2.1, ⟨hk.1.1.1.2.2, hk.2⟩⟩⟩))); (case aS => exact (below_size (by repeat (with_reducible first | exact HB.out | apply bA | apply bN | apply bD | refine bS ?_ GE425.out | refine bS ?_ GE434.out)))); (case aL => have h_ := LMc22.out; have h2_ := congrArg List.length EG3.out; rw [List.length_map] at h2_; omega); intro v437 w32 ho hb hg hat; have EGN := am (show List.map Prod.fst (g3 ++ [((⟨t426, t429, t432⟩ : S27), (.slice Ao26 t426.length co26 : Value), (.slice Ao29 t429.length co29 : Value))]) = y436 from by rw [Ny436.out, List.map_append, EG3.out]; rfl); have AGN := am (HAPN.out (⟨t426, t429, t432⟩ : S27)); replace HO_16 := am (Kd.N_afterv (ok := (fun k_ => (w.heap.size ≤ k_) ∧ some k_ ≠ (.slice Ao26 t426.length co26 : Value).ownBlock ∧ some k_ ≠ (.slice Ao29 t429.length co29 : Value).ownBlock ∧ k_ ≠ gb425 ∧ k_ ≠ gb434)) (by (with_reducible repeat (first | apply nA | apply nN | apply nD)); exact Kd.N_mono HO_16.out (fun _ hk => ⟨⟨hk.1.1.1.1, ⟨hk.1.1.2, ⟨hk.1.2, ⟨hk.1.1.1.2.2, hk.2⟩⟩⟩⟩, hk.1.1.1.2.1⟩)) hg hat); replace HO_426000 := am (Kd.V_afterv (ok := (fun k_ => (w.heap.size ≤ k_) ∧ some k_ ≠ (.slice (some ad424) x3_1.length co11 : Value).ownBlock ∧ some k_ ≠ (.slice Ao26 t426.length co26 : Value).ownBlock ∧ some k_ ≠ (.slice Ao29 t429.length co29 : Value).ownBlock ∧ k_ ≠ gb425 ∧ k_ ≠ gb434)) (by (with_reducible repeat (first | apply vA | apply vN | apply vD)); exact Kd.V_mono HO_426000.out (fun _ hk => ⟨⟨hk.1.1.1.1, ⟨hk.1.1.1.2.2.1, ⟨hk.1.1.2, ⟨hk.1.2, ⟨hk.1.1.1.2.2.2, hk.2⟩⟩⟩⟩⟩, hk.1.1.1.2.1⟩)) hg hat); replace HO_426001 := am (Kd.V_afterv (ok := (fun k_ => (w.heap.size ≤ k_) ∧ some k_ ≠ (.slice (some ad424) x3_1.length co11 : Value).ownBlock ∧ some k_ ≠ (.slice Ao26 t426.length co26 : Value).ownBlock ∧ some k_ ≠ (.slice Ao29 t429.length co29 : Value).ownBlock ∧ k_ ≠ gb425 ∧ k_ ≠ gb434)) (by (with_reducible repeat (first | apply vA | apply vN | apply vD)); exact Kd.V_mono HO_426001.out (fun _ hk => ⟨⟨hk.1.1.1.1, ⟨hk.1.1.1.2.2.1, ⟨hk.1.1.2, ⟨hk.1.2, ⟨hk.1.1.1.2.2.2, hk.2⟩⟩⟩⟩⟩, hk.1.1.1.2.1⟩)) hg hat); replace BK425 := am (blk_grown (g := gb425) (o := .cells #[.slice A424_0 ((rd_T27 x3_1 x18_2).f0).length c424_0, .slice A424_1 ((rd_T27 x3_1 x18_2).f1).length c424_1, .int .i64 ((rd_T27 x3_1 x18_2).f2)] 27 (0, 0)) (by (with_reducible repeat (first | apply kB | apply kC | apply kE)); exact BK425.out) hg (Kd.N_away HO_4.out (fun _ hk => hk.1.1.1.2.2))); replace BK434 := am (blk_grown (g := gb434) (o := .cells #[.slice Ao26 t426.length co26, .slice Ao29 t429.length co29, .int .i64 t432] 27 (0, 0)) (by (with_reducible repeat (first | apply kB | apply kC | apply kE)); exact BK434.out) hg (Kd.N_away HO_4.out (fun _ hk => hk.2))); replace HB := am (hb); have HO438 := am (ho); clear HO_4 HO428 HO431; clear ho hb hg hat))
               go_roundg k3
               case measure => have := HK1.out; have := HK2.out; have := HK3.out; omega
               case rel => exact ⟨(y436), (wrap64 (x22_3 + 1)), (by first | rfl | (simp; done) | (simp [*]; done)), H', ⟨by have := HK1.out; have := HK2.out; have := HK3.out; omega⟩, ⟨⟨_, EGN.out, AGN.out, (by (with_reducible repeat (first | apply nA | apply nN | apply nD)); exact Kd.N_mono HO438.out (fun _ hk => ⟨hk.1, ⟨hk.2.1, hk.2.2.1⟩⟩))⟩⟩, ⟨by (with_reducible repeat (first | apply nA | apply nN | apply nD)); exact Kd.N_mono HO_16.out (fun _ hk => ⟨hk.1.1, ⟨hk.2, hk.1.2.2.2.1⟩⟩)⟩, ⟨by (with_reducible repeat (first | apply vA | apply vN | apply vD)); exact Kd.V_mono HO_426000.out (fun _ hk => ⟨hk.1.1, ⟨hk.2, ⟨hk.1.2.1, hk.1.2.2.2.2.1⟩⟩⟩)⟩, ⟨by (with_reducible repeat (first | apply vA | apply vN | apply vD)); exact Kd.V_mono HO_426001.out (fun _ hk => ⟨hk.1.1, ⟨hk.2, ⟨hk.1.2.1, hk.1.2.2.2.2.1⟩⟩⟩)⟩, ⟨by (with_reducible repeat (first | apply kB | apply kC | apply kE)); exact BK425.out⟩, ⟨by repeat (with_reducible first | exact HB.out | apply bA | apply bN | apply bD | refine bS ?_ GE425.out | refine bS ?_ GE434.out)⟩⟩
              ·rw [if_neg c22] at H
               exact absurd H (by simp)
             ·rw [if_neg c20] at H
              have c20b0 : (t432 == 0) = false := beq_eq_false_iff_ne.mpr c20
              have c20b1 : (t432 != 0) = true := bne_iff_ne.mpr c20
              have H' := am H
              clear H
              have hcz33_0 : wr.cell? ⟨gb425, 0, none⟩ = some (.slice A424_0 ((rd_T27 x3_1 x18_2).f0).length c424_0) := (blk_cell BK425.out 0).trans rfl
              have hcz33_1 : wr.cell? ⟨gb425, 1, none⟩ = some (.slice A424_1 ((rd_T27 x3_1 x18_2).f1).length c424_1) := (blk_cell BK425.out 1).trans rfl
              have hcz33_2 : wr.cell? ⟨gb425, 2, none⟩ = some (.int .i64 ((rd_T27 x3_1 x18_2).f2)) := (blk_cell BK425.out 2).trans rfl
              have hfz33_0 := blk_frozen BK425.out 0
              have hfz33_1 := blk_frozen BK425.out 1
              have hfz33_2 := blk_frozen BK425.out 2
              go_wp2_with (first | ((with_reducible refine gate_callee (f := 59) rfl ?_); refine goesL_ (some 28) rfl rfl Try.func59 (by kernel_rfl) rfl #[.agg #[.slice A424_0 ((rd_T27 x3_1 x18_2).f0).length c424_0, .slice A424_1 ((rd_T27 x3_1 x18_2).f1).length c424_1, .int .i64 ((rd_T27 x3_1 x18_2).f2)], .int .i64 x22_3] rfl (by (try simp only [mT, mC, mZ]); first | done | rfl) ?_; (with_reducible refine (impl_State_stepped.calls k3 _ _ ((rd_T27 x3_1 x18_2).f0) _ _ ((rd_T27 x3_1 x18_2).f1) ((rd_T27 x3_1 x18_2).f2) x22_3 t426 t429 t432 true _ ?side1 ?side2 ?side3 ?side4 A18.out).mono ?_); (case side1 => repeat (first | exact (Kd.V_reads' HO_426000.out).2.2 | (with_reducible first | apply cA | apply cN | apply cD))); (case side2 => exact (Kd.V_reads' HO_426000.out).2.1); (case side3 => repeat (first | exact (Kd.V_reads' HO_426001.out).2.2 | (with_reducible first | apply cA | apply cN | apply cD))); (case side4 => exact (Kd.V_reads' HO_426001.out).2.1); rintro e w34 ⟨v427, v430, rfl, ho0, ho1, hb⟩; refine ⟨_, rfl, ?_⟩; replace HO_4 := am (Kd.N_mono (Kd.N_told (Kd.N_told (Kd.N_old (by (with_reducible repeat (first | apply nA | apply nN | apply nD)); exact HO_4.out) hb) (Kd.R_base ho0)) (Kd.R_base ho1)) (fun _ h_ => h_.1)); replace HO_16 := am (Kd.N_mono (Kd.N_told (Kd.N_told (Kd.N_old (by (with_reducible repeat (first | apply nA | apply nN | apply nD)); exact HO_16.out) hb) (Kd.R_base ho0)) (Kd.R_base ho1)) (fun _ h_ => h_.1)); replace HO_426000 := am (Kd.V_mono (Kd.V_told (Kd.V_told (Kd.V_old (by (with_reducible repeat (first | apply vA | apply vN | apply vD)); exact HO_426000.out) hb) (Kd.R_base ho0)) (Kd.R_base ho1)) (fun _ h_ => h_.1)); replace HO_426001 := am (Kd.V_mono (Kd.V_told (Kd.V_told (Kd.V_old (by (with_reducible repeat (first | apply vA | apply vN | apply vD)); exact HO_426001.out) hb) (Kd.R_base ho0)) (Kd.R_base ho1)) (fun _ h_ => h_.1)); have HO428 := am (Kd.R_lower (Kd.R_newM (M := fun k_ => (w.heap.size ≤ k_)) ho0 (below_size (by repeat (with_reducible first | exact HB.out | apply bA | apply bN | apply bD | refine bS ?_ GE425.out))) (fun k_ h_ => h_)) (below_size (by repeat (with_reducible first | exact HB.out | apply bA | apply bN | apply bD | refine bS ?_ GE425.out)))); have HO431 := am (Kd.R_lower (Kd.R_newM (M := fun k_ => (w.heap.size ≤ k_)) ho1 (below_size (by repeat (with_reducible first | exact HB.out | apply bA | apply bN | apply bD | refine bS ?_ GE425.out))) (fun k_ h_ => h_)) (below_size (by repeat (with_reducible first | exact HB.out | apply bA | apply bN | apply bD | refine bS ?_ GE425.out)))); replace BK425 := am (blk_below (g := gb425) (o := .cells #[.slice A424_0 ((rd_T27 x3_1 x18_2).f0).length c424_0, .slice A424_1 ((rd_T27 x3_1 x18_2).f1).length c424_1, .int .i64 ((rd_T27 x3_1 x18_2).f2)] 27 (0, 0)) (by (with_reducible repeat (first | apply kB | apply kC | apply kE)); exact BK425.out) hb); replace HB := am (below_step (by repeat (with_reducible first | exact HB.out | apply bA | apply bN | apply bD | refine bS ?_ GE425.out)) hb); (try clear hb); (try clear hb2); (try clear hk); (try clear hi); (try clear ho0); (try clear ho1)) | ((with_reducible refine gate_dst (N := 8) rfl ?_); refine box_event ?hg (N := 8) ?hd (cs := #[.slice none 0 0, .slice none 0 0, .int .i64 0]) (t := 27) ?hr ?_; (case hd => rfl); (case hg => rfl); (case hr => first | (go_simp; done) | (go_simp; rfl)); intro gb434 hg w35 hbox hb; replace HO_4 := am (Kd.N_below (Kd.N_elderB (by (with_reducible repeat (first | apply nA | apply nN | apply nD)); exact HO_4.out) gb434 (Nat.le_of_eq hg.symm)) hb); replace HO_16 := am (Kd.N_below (Kd.N_elderB (by (with_reducible repeat (first | apply nA | apply nN | apply nD)); exact HO_16.out) gb434 (Nat.le_of_eq hg.symm)) hb); replace HO_426000 := am (Kd.V_below (Kd.V_elderB (by (with_reducible repeat (first | apply vA | apply vN | apply vD)); exact HO_426000.out) gb434 (Nat.le_of_eq hg.symm)) hb); replace HO_426001 := am (Kd.V_below (Kd.V_elderB (by (with_reducible repeat (first | apply vA | apply vN | apply vD)); exact HO_426001.out) gb434 (Nat.le_of_eq hg.symm)) hb); replace HO428 := am (Kd.R_below (by (with_reducible repeat (first | apply rA | apply rN | apply rD)); exact HO428.out) hb); replace HO431 := am (Kd.R_below (by (with_reducible repeat (first | apply rA | apply rN | apply rD)); exact HO431.out) hb); have BK434 := am (hbox); have GW434 := am ((by rw [hg]; exact (below_size (by repeat (with_reducible first | exact HB.out | apply bA | apply bN | apply bD | refine bS ?_ GE425.out))) : w.heap.size ≤ gb434)); have GE434 := am ((by rw [hg]; exact (below_size (by repeat (with_reducible first | exact HB.out | apply bA | apply bN | apply bD | refine bS ?_ GE425.out))) : w.heap.size ≤ gb434)); replace HB := am (below_step (by repeat (with_reducible first | exact HB.out | apply bA | apply bN | apply bD | refine bS ?_ GE425.out)) hb); have NB425_434 := am ((by rw [hg]; exact Nat.ne_of_lt (blk_lt (g := gb425) (o := .cells #[.slice A424_0 ((rd_T27 x3_1 x18_2).f0).length c424_0, .slice A424_1 ((rd_T27 x3_1 x18_2).f1).length c424_1, .int .i64 ((rd_T27 x3_1 x18_2).f2)] 27 (0, 0)) (by (with_reducible repeat (first | apply kB | apply kC | apply kE)); exact BK425.out)) : gb425 ≠ gb434)); have NB434_425 := am ((by rw [hg]; exact Nat.ne_of_gt (blk_lt (g := gb425) (o := .cells #[.slice A424_0 ((rd_T27 x3_1 x18_2).f0).length c424_0, .slice A424_1 ((rd_T27 x3_1 x18_2).f1).length c424_1, .int .i64 ((rd_T27 x3_1 x18_2).f2)] 27 (0, 0)) (by (with_reducible repeat (first | apply kB | apply kC | apply kE)); exact BK425.out)) : gb434 ≠ gb425)); replace BK425 := am (blk_below (g := gb425) (o := .cells #[.slice A424_0 ((rd_T27 x3_1 x18_2).f0).length c424_0, .slice A424_1 ((rd_T27 x3_1 x18_2).f1).length c424_1, .int .i64 ((rd_T27 x3_1 x18_2).f2)] 27 (0, 0)) (by (with_reducible repeat (first | apply kB | apply kC | apply kE)); exact BK425.out) hb); clear hb hbox hg; obtain ⟨Ao36, co36, eo36⟩ := Kd.R_slice HO428.out; subst eo36; have hnb37 := NB434_425.out; have hnc37 := NB425_434.out; have hcz38_0 : w35.cell? ⟨gb434, 0, none⟩ = some (.slice none 0 0) := (blk_cell BK434.out 0).trans rfl; have hcz38_1 : w35.cell? ⟨gb434, 1, none⟩ = some (.slice none 0 0) := (blk_cell BK434.out 1).trans rfl; have hcz38_2 : w35.cell? ⟨gb434, 2, none⟩ = some (.int .i64 0) := (blk_cell BK434.out 2).trans rfl; have hfz38_0 := blk_frozen BK434.out 0; have hfz38_1 := blk_frozen BK434.out 1; have hfz38_2 := blk_frozen BK434.out 2; obtain ⟨Ao39, co39, eo39⟩ := Kd.R_slice HO431.out; subst eo39))
              go_roundg k3
              case measure => have := HK1.out; have := HK2.out; have := HK3.out; omega
              case rel => exact ⟨(x4_3), (wrap64 (x22_3 + 1)), (by first | rfl | (simp; done) | (simp [*]; done)), H', ⟨by have := HK1.out; have := HK2.out; have := HK3.out; omega⟩, ⟨⟨g3, EG3.out, AG3.out, (by (with_reducible repeat (first | apply nA | apply nN | apply nD)); exact Kd.N_mono (Kd.N_far (p := ⟨gb434, 2, none⟩) (Kd.N_far (p := ⟨gb434, 1, none⟩) (Kd.N_far (p := ⟨gb434, 0, none⟩) (Kd.N_mono HO_4.out (fun k_ hk => (⟨hk, hk.2⟩ : _ ∧ k_ ≠ gb434))) (fun _ hk => hk.2) (.slice Ao36 t426.length co36)) (fun _ hk => hk.2) (.slice Ao39 t429.length co39)) (fun _ hk => hk.2) (.int .i64 t432)) (fun _ hk => ⟨hk.1.1.1.1.1, ⟨hk.1.1.1.1.2.1, hk.1.1.1.1.2.2⟩⟩))⟩⟩, ⟨by (with_reducible repeat (first | apply nA | apply nN | apply nD)); exact Kd.N_mono (Kd.N_far (p := ⟨gb434, 2, none⟩) (Kd.N_far (p := ⟨gb434, 1, none⟩) (Kd.N_far (p := ⟨gb434, 0, none⟩) (Kd.N_mono HO_16.out (fun k_ hk => (⟨hk, hk.2⟩ : _ ∧ k_ ≠ gb434))) (fun _ hk => hk.2) (.slice Ao36 t426.length co36)) (fun _ hk => hk.2) (.slice Ao39 t429.length co39)) (fun _ hk => hk.2) (.int .i64 t432)) (fun _ hk => ⟨hk.1.1.1.1.1, ⟨hk.1.1.1.1.2.1, hk.1.1.1.1.2.2⟩⟩)⟩, ⟨by (with_reducible repeat (first | apply vA | apply vN | apply vD)); exact Kd.V_mono (Kd.V_far (p := ⟨gb434, 2, none⟩) (Kd.V_far (p := ⟨gb434, 1, none⟩) (Kd.V_far (p := ⟨gb434, 0, none⟩) (Kd.V_mono HO_426000.out (fun k_ hk => (⟨hk, hk.2⟩ : _ ∧ k_ ≠ gb434))) (fun _ hk => hk.2) (.slice Ao36 t426.length co36)) (fun _ hk => hk.2) (.slice Ao39 t429.length co39)) (fun _ hk => hk.2) (.int .i64 t432)) (fun _ hk => ⟨hk.1.1.1.1.1, ⟨hk.1.1.1.1.2.1, ⟨hk.1.1.1.1.2.2.1, hk.1.1.1.1.2.2.2⟩⟩⟩)⟩, ⟨by (with_reducible repeat (first | apply vA | apply vN | apply vD)); exact Kd.V_mono (Kd.V_far (p := ⟨gb434, 2, none⟩) (Kd.V_far (p := ⟨gb434, 1, none⟩) (Kd.V_far (p := ⟨gb434, 0, none⟩) (Kd.V_mono HO_426001.out (fun k_ hk => (⟨hk, hk.2⟩ : _ ∧ k_ ≠ gb434))) (fun _ hk => hk.2) (.slice Ao36 t426.length co36)) (fun _ hk => hk.2) (.slice Ao39 t429.length co39)) (fun _ hk => hk.2) (.int .i64 t432)) (fun _ hk => ⟨hk.1.1.1.1.1, ⟨hk.1.1.1.1.2.1, ⟨hk.1.1.1.1.2.2.1, hk.1.1.1.1.2.2.2⟩⟩⟩)⟩, ⟨by (with_reducible repeat (first | apply kB | apply kC | apply kE)); refine blk_far ?_ NB425_434.out _; (with_reducible repeat (first | apply kB | apply kC | apply kE)); refine blk_far ?_ NB425_434.out _; (with_reducible repeat (first | apply kB | apply kC | apply kE)); refine blk_far ?_ NB425_434.out _; (with_reducible repeat (first | apply kB | apply kC | apply kE)); exact BK425.out⟩, ⟨by repeat (with_reducible first | exact HB.out | apply bA | apply bN | apply bD | refine bS ?_ GE425.out | refine bS ?_ GE434.out)⟩⟩
            ·replace c19 := Bool.eq_false_iff.mpr c19
             subst c19
             have H1 : (impl_statesAfter.l2 k3 x4_3 a0 x13_1 x3_1 (x3_1.length : Int) x18_2 (wrap64 (x22_3 + 1)) ((rd_T27 x3_1 x18_2).f0) ((rd_T27 x3_1 x18_2).f1) ((rd_T27 x3_1 x18_2).f2)) = some r := by rw [if_neg (show ¬ (false = true) by decide)] at H; exact H
             clear H
             have H := H1
             clear H1
             have H' := am H
             clear H
             have hcz40_0 : wr.cell? ⟨gb425, 0, none⟩ = some (.slice A424_0 ((rd_T27 x3_1 x18_2).f0).length c424_0) := (blk_cell BK425.out 0).trans rfl
             have hcz40_1 : wr.cell? ⟨gb425, 1, none⟩ = some (.slice A424_1 ((rd_T27 x3_1 x18_2).f1).length c424_1) := (blk_cell BK425.out 1).trans rfl
             have hcz40_2 : wr.cell? ⟨gb425, 2, none⟩ = some (.int .i64 ((rd_T27 x3_1 x18_2).f2)) := (blk_cell BK425.out 2).trans rfl
             have hfz40_0 := blk_frozen BK425.out 0
             have hfz40_1 := blk_frozen BK425.out 1
             have hfz40_2 := blk_frozen BK425.out 2
             go_wp2_with (first | ((with_reducible refine gate_callee (f := 59) rfl ?_); refine goesL_ (some 28) rfl rfl Try.func59 (by kernel_rfl) rfl #[.agg #[.slice A424_0 ((rd_T27 x3_1 x18_2).f0).length c424_0, .slice A424_1 ((rd_T27 x3_1 x18_2).f1).length c424_1, .int .i64 ((rd_T27 x3_1 x18_2).f2)], .int .i64 x22_3] rfl (by (try simp only [mT, mC, mZ]); first | done | rfl) ?_; (with_reducible refine (impl_State_stepped.calls k3 _ _ ((rd_T27 x3_1 x18_2).f0) _ _ ((rd_T27 x3_1 x18_2).f1) ((rd_T27 x3_1 x18_2).f2) x22_3 t426 t429 t432 false _ ?side1 ?side2 ?side3 ?side4 A18.out).mono ?_); (case side1 => repeat (first | exact (Kd.V_reads' HO_426000.out).2.2 | (with_reducible first | apply cA | apply cN | apply cD))); (case side2 => exact (Kd.V_reads' HO_426000.out).2.1); (case side3 => repeat (first | exact (Kd.V_reads' HO_426001.out).2.2 | (with_reducible first | apply cA | apply cN | apply cD))); (case side4 => exact (Kd.V_reads' HO_426001.out).2.1); rintro e w41 ⟨v427, v430, rfl, ho0, ho1, hb⟩; refine ⟨_, rfl, ?_⟩; replace HO_4 := am (Kd.N_mono (Kd.N_told (Kd.N_told (Kd.N_old (by (with_reducible repeat (first | apply nA | apply nN | apply nD)); exact HO_4.out) hb) (Kd.R_base ho0)) (Kd.R_base ho1)) (fun _ h_ => h_.1)); replace HO_16 := am (Kd.N_mono (Kd.N_told (Kd.N_told (Kd.N_old (by (with_reducible repeat (first | apply nA | apply nN | apply nD)); exact HO_16.out) hb) (Kd.R_base ho0)) (Kd.R_base ho1)) (fun _ h_ => h_.1)); replace HO_426000 := am (Kd.V_mono (Kd.V_told (Kd.V_told (Kd.V_old (by (with_reducible repeat (first | apply vA | apply vN | apply vD)); exact HO_426000.out) hb) (Kd.R_base ho0)) (Kd.R_base ho1)) (fun _ h_ => h_.1)); replace HO_426001 := am (Kd.V_mono (Kd.V_told (Kd.V_told (Kd.V_old (by (with_reducible repeat (first | apply vA | apply vN | apply vD)); exact HO_426001.out) hb) (Kd.R_base ho0)) (Kd.R_base ho1)) (fun _ h_ => h_.1)); have HO428 := am (Kd.R_lower (Kd.R_newM (M := fun k_ => (w.heap.size ≤ k_)) ho0 (below_size (by repeat (with_reducible first | exact HB.out | apply bA | apply bN | apply bD | refine bS ?_ GE425.out))) (fun k_ h_ => h_)) (below_size (by repeat (with_reducible first | exact HB.out | apply bA | apply bN | apply bD | refine bS ?_ GE425.out)))); have HO431 := am (Kd.R_lower (Kd.R_newM (M := fun k_ => (w.heap.size ≤ k_)) ho1 (below_size (by repeat (with_reducible first | exact HB.out | apply bA | apply bN | apply bD | refine bS ?_ GE425.out))) (fun k_ h_ => h_)) (below_size (by repeat (with_reducible first | exact HB.out | apply bA | apply bN | apply bD | refine bS ?_ GE425.out)))); replace BK425 := am (blk_below (g := gb425) (o := .cells #[.slice A424_0 ((rd_T27 x3_1 x18_2).f0).length c424_0, .slice A424_1 ((rd_T27 x3_1 x18_2).f1).length c424_1, .int .i64 ((rd_T27 x3_1 x18_2).f2)] 27 (0, 0)) (by (with_reducible repeat (first | apply kB | apply kC | apply kE)); exact BK425.out) hb); replace HB := am (below_step (by repeat (with_reducible first | exact HB.out | apply bA | apply bN | apply bD | refine bS ?_ GE425.out)) hb); (try clear hb); (try clear hb2); (try clear hk); (try clear hi); (try clear ho0); (try clear ho1)) | ((with_reducible refine gate_dst (N := 8) rfl ?_); refine box_event ?hg (N := 8) ?hd (cs := #[.slice none 0 0, .slice none 0 0, .int .i64 0]) (t := 27) ?hr ?_; (case hd => rfl); (case hg => rfl); (case hr => first | (go_simp; done) | (go_simp; rfl)); intro gb434 hg w42 hbox hb; replace HO_4 := am (Kd.N_below (Kd.N_elderB (by (with_reducible repeat (first | apply nA | apply nN | apply nD)); exact HO_4.out) gb434 (Nat.le_of_eq hg.symm)) hb); replace HO_16 := am (Kd.N_below (Kd.N_elderB (by (with_reducible repeat (first | apply nA | apply nN | apply nD)); exact HO_16.out) gb434 (Nat.le_of_eq hg.symm)) hb); replace HO_426000 := am (Kd.V_below (Kd.V_elderB (by (with_reducible repeat (first | apply vA | apply vN | apply vD)); exact HO_426000.out) gb434 (Nat.le_of_eq hg.symm)) hb); replace HO_426001 := am (Kd.V_below (Kd.V_elderB (by (with_reducible repeat (first | apply vA | apply vN | apply vD)); exact HO_426001.out) gb434 (Nat.le_of_eq hg.symm)) hb); replace HO428 := am (Kd.R_below (by (with_reducible repeat (first | apply rA | apply rN | apply rD)); exact HO428.out) hb); replace HO431 := am (Kd.R_below (by (with_reducible repeat (first | apply rA | apply rN | apply rD)); exact HO431.out) hb); have BK434 := am (hbox); have GW434 := am ((by rw [hg]; exact (below_size (by repeat (with_reducible first | exact HB.out | apply bA | apply bN | apply bD | refine bS ?_ GE425.out))) : w.heap.size ≤ gb434)); have GE434 := am ((by rw [hg]; exact (below_size (by repeat (with_reducible first | exact HB.out | apply bA | apply bN | apply bD | refine bS ?_ GE425.out))) : w.heap.size ≤ gb434)); replace HB := am (below_step (by repeat (with_reducible first | exact HB.out | apply bA | apply bN | apply bD | refine bS ?_ GE425.out)) hb); have NB425_434 := am ((by rw [hg]; exact Nat.ne_of_lt (blk_lt (g := gb425) (o := .cells #[.slice A424_0 ((rd_T27 x3_1 x18_2).f0).length c424_0, .slice A424_1 ((rd_T27 x3_1 x18_2).f1).length c424_1, .int .i64 ((rd_T27 x3_1 x18_2).f2)] 27 (0, 0)) (by (with_reducible repeat (first | apply kB | apply kC | apply kE)); exact BK425.out)) : gb425 ≠ gb434)); have NB434_425 := am ((by rw [hg]; exact Nat.ne_of_gt (blk_lt (g := gb425) (o := .cells #[.slice A424_0 ((rd_T27 x3_1 x18_2).f0).length c424_0, .slice A424_1 ((rd_T27 x3_1 x18_2).f1).length c424_1, .int .i64 ((rd_T27 x3_1 x18_2).f2)] 27 (0, 0)) (by (with_reducible repeat (first | apply kB | apply kC | apply kE)); exact BK425.out)) : gb434 ≠ gb425)); replace BK425 := am (blk_below (g := gb425) (o := .cells #[.slice A424_0 ((rd_T27 x3_1 x18_2).f0).length c424_0, .slice A424_1 ((rd_T27 x3_1 x18_2).f1).length c424_1, .int .i64 ((rd_T27 x3_1 x18_2).f2)] 27 (0, 0)) (by (with_reducible repeat (first | apply kB | apply kC | apply kE)); exact BK425.out) hb); clear hb hbox hg; obtain ⟨Ao43, co43, eo43⟩ := Kd.R_slice HO428.out; subst eo43; have hnb44 := NB434_425.out; have hnc44 := NB425_434.out; have hcz45_0 : w42.cell? ⟨gb434, 0, none⟩ = some (.slice none 0 0) := (blk_cell BK434.out 0).trans rfl; have hcz45_1 : w42.cell? ⟨gb434, 1, none⟩ = some (.slice none 0 0) := (blk_cell BK434.out 1).trans rfl; have hcz45_2 : w42.cell? ⟨gb434, 2, none⟩ = some (.int .i64 0) := (blk_cell BK434.out 2).trans rfl; have hfz45_0 := blk_frozen BK434.out 0; have hfz45_1 := blk_frozen BK434.out 1; have hfz45_2 := blk_frozen BK434.out 2; obtain ⟨Ao46, co46, eo46⟩ := Kd.R_slice HO431.out; subst eo46))
             go_roundg k3
             case measure => have := HK1.out; have := HK2.out; have := HK3.out; omega
             case rel => exact ⟨(x4_3), (wrap64 (x22_3 + 1)), (by first | rfl | (simp; done) | (simp [*]; done)), H', ⟨by have := HK1.out; have := HK2.out; have := HK3.out; omega⟩, ⟨⟨g3, EG3.out, AG3.out, (by (with_reducible repeat (first | apply nA | apply nN | apply nD)); exact Kd.N_mono (Kd.N_far (p := ⟨gb434, 2, none⟩) (Kd.N_far (p := ⟨gb434, 1, none⟩) (Kd.N_far (p := ⟨gb434, 0, none⟩) (Kd.N_mono HO_4.out (fun k_ hk => (⟨hk, hk.2⟩ : _ ∧ k_ ≠ gb434))) (fun _ hk => hk.2) (.slice Ao43 t426.length co43)) (fun _ hk => hk.2) (.slice Ao46 t429.length co46)) (fun _ hk => hk.2) (.int .i64 t432)) (fun _ hk => ⟨hk.1.1.1.1.1, ⟨hk.1.1.1.1.2.1, hk.1.1.1.1.2.2⟩⟩))⟩⟩, ⟨by (with_reducible repeat (first | apply nA | apply nN | apply nD)); exact Kd.N_mono (Kd.N_far (p := ⟨gb434, 2, none⟩) (Kd.N_far (p := ⟨gb434, 1, none⟩) (Kd.N_far (p := ⟨gb434, 0, none⟩) (Kd.N_mono HO_16.out (fun k_ hk => (⟨hk, hk.2⟩ : _ ∧ k_ ≠ gb434))) (fun _ hk => hk.2) (.slice Ao43 t426.length co43)) (fun _ hk => hk.2) (.slice Ao46 t429.length co46)) (fun _ hk => hk.2) (.int .i64 t432)) (fun _ hk => ⟨hk.1.1.1.1.1, ⟨hk.1.1.1.1.2.1, hk.1.1.1.1.2.2⟩⟩)⟩, ⟨by (with_reducible repeat (first | apply vA | apply vN | apply vD)); exact Kd.V_mono (Kd.V_far (p := ⟨gb434, 2, none⟩) (Kd.V_far (p := ⟨gb434, 1, none⟩) (Kd.V_far (p := ⟨gb434, 0, none⟩) (Kd.V_mono HO_426000.out (fun k_ hk => (⟨hk, hk.2⟩ : _ ∧ k_ ≠ gb434))) (fun _ hk => hk.2) (.slice Ao43 t426.length co43)) (fun _ hk => hk.2) (.slice Ao46 t429.length co46)) (fun _ hk => hk.2) (.int .i64 t432)) (fun _ hk => ⟨hk.1.1.1.1.1, ⟨hk.1.1.1.1.2.1, ⟨hk.1.1.1.1.2.2.1, hk.1.1.1.1.2.2.2⟩⟩⟩)⟩, ⟨by (with_reducible repeat (first | apply vA | apply vN | apply vD)); exact Kd.V_mono (Kd.V_far (p := ⟨gb434, 2, none⟩) (Kd.V_far (p := ⟨gb434, 1, none⟩) (Kd.V_far (p := ⟨gb434, 0, none⟩) (Kd.V_mono HO_426001.out (fun k_ hk => (⟨hk, hk.2⟩ : _ ∧ k_ ≠ gb434))) (fun _ hk => hk.2) (.slice Ao43 t426.length co43)) (fun _ hk => hk.2) (.slice Ao46 t429.length co46)) (fun _ hk => hk.2) (.int .i64 t432)) (fun _ hk => ⟨hk.1.1.1.1.1, ⟨hk.1.1.1.1.2.1, ⟨hk.1.1.1.1.2.2.1, hk.1.1.1.1.2.2.2⟩⟩⟩)⟩, ⟨by (with_reducible repeat (first | apply kB | apply kC | apply kE)); refine blk_far ?_ NB425_434.out _; (with_reducible repeat (first | apply kB | apply kC | apply kE)); refine blk_far ?_ NB425_434.out _; (with_reducible repeat (first | apply kB | apply kC | apply kE)); refine blk_far ?_ NB425_434.out _; (with_reducible repeat (first | apply kB | apply kC | apply kE)); exact BK425.out⟩, ⟨by repeat (with_reducible first | exact HB.out | apply bA | apply bN | apply bD | refine bS ?_ GE425.out | refine bS ?_ GE434.out)⟩⟩
           ·rw [if_neg c17] at H
            have c17b0 : decide (x22_3 < 4) = false := decide_eq_false c17
            clear c17
            have H' := am H
            clear H
            go_wp2
            go_roundg k3
            case measure => have := HK1.out; have := HK2.out; have := HK3.out; omega
            case rel => exact ⟨(x4_3), (wrap64 (x18_2 + 1)), (by first | rfl | (simp; done) | (simp [*]; done)), H', ⟨by have := HK1.out; have := HK2.out; have := HK3.out; omega⟩, ⟨⟨g3, EG3.out, AG3.out, (by (with_reducible repeat (first | apply nA | apply nN | apply nD)); exact Kd.N_mono HO_4.out (fun _ hk => ⟨hk.1, hk.2.1⟩))⟩⟩, ⟨by (with_reducible repeat (first | apply nA | apply nN | apply nD)); exact Kd.N_mono HO_16.out (fun _ hk => ⟨hk.1, hk.2.1⟩)⟩, ⟨by repeat (with_reducible first | exact HB.out | apply bA | apply bN | apply bD | refine bS ?_ GE425.out)⟩⟩
        ·rw [if_neg c14] at H
         exact absurd H (by simp)
       ·rw [if_neg c13] at H
        exact absurd H (by simp)
      ·rw [if_neg c12] at H
       have c12b0 : decide (x18_2 < (x3_1.length : Int)) = false := decide_eq_false c12
       clear c12
       replace H := Option.bind_eq_some_iff.mp H
       obtain ⟨y418, AS0, H⟩ := H
       replace H : ((sCf.f y418).bind fun y421 => (impl_statesAfter.l0 k2 y421 a0 (wrap64 (x13_1 + 1)))) = some r := H
       have AS := am AS0
       clear AS0
       replace H := Option.bind_eq_some_iff.mp H
       obtain ⟨y421, AC0, H⟩ := H
       replace H : (impl_statesAfter.l0 k2 y421 a0 (wrap64 (x13_1 + 1))) = some r := H
       have AC := am AC0
       clear AC0
       have H' := am H
       clear H
       go_wp2_with (first | (go_at_call 77; (with_reducible refine (GN.sort (b := w.heap.size) (base := w.heap.size) (ok := (fun k_ => (w.heap.size ≤ k_) ∧ some k_ ≠ (.slice Ao11 x3_1.length co11 : Value).ownBlock)) (xs := x4_2) ?hN AS.out).mono ?_); (case hN => exact ⟨g2, EG2.out, AG2.out, (by (with_reducible repeat (first | apply nA | apply nN | apply nD)); exact HO_4.out)⟩); rintro e w49 ⟨rfl, ho, hg⟩; have hb := Below.grown (by repeat (with_reducible first | exact HB.out | apply bA | apply bN | apply bD)) hg (below_size (by repeat (with_reducible first | exact HB.out | apply bA | apply bN | apply bD))) (fun k_ hk_ => (ho.own k_ hk_).1); replace HO_16 := am (Kd.N_afterv (ok := (fun k_ => (w.heap.size ≤ k_))) (by (with_reducible repeat (first | apply nA | apply nN | apply nD)); exact HO_16.out) hg (.inl rfl)); replace HB := am (hb); have HO420 := am (ho); clear HO_4; clear ho hb hg) | (go_at_call 79; (with_reducible refine (GN.comp (b := w.heap.size) (base := w.heap.size) (ok := (fun k_ => (w.heap.size ≤ k_) ∧ some k_ ≠ (.slice Ao11 x3_1.length co11 : Value).ownBlock)) (xs := y418) ?hN AC.out).mono ?_); (case hN => exact (by (with_reducible repeat (first | apply nA | apply nN | apply nD)); exact HO420.out)); rintro e w50 ⟨v422, rfl, ho, hg, hat0⟩; have hb := Below.grown (by repeat (with_reducible first | exact HB.out | apply bA | apply bN | apply bD)) hg (below_size (by repeat (with_reducible first | exact HB.out | apply bA | apply bN | apply bD))) (fun k_ hk_ => (ho.own k_ (hat0.trans hk_)).1); replace HO_16 := am (Kd.N_afterv (ok := (fun k_ => (w.heap.size ≤ k_))) (by (with_reducible repeat (first | apply nA | apply nN | apply nD)); exact HO_16.out) hg (.inl hat0)); replace HB := am (hb); have HO423 := am (ho); clear HO420; clear ho hb hg hat0))
       go_roundg k2
       case measure => have := HK1.out; have := HK2.out; omega
       case rel => exact ⟨(y421), (wrap64 (x13_1 + 1)), (by first | rfl | (simp; done) | (simp [*]; done)), H', ⟨by have := HK1.out; have := HK2.out; omega⟩, ⟨GN.mono HO423.out (fun _ hk => hk.1)⟩, ⟨by repeat (with_reducible first | exact HB.out | apply bA | apply bN | apply bD)⟩⟩
   ·rw [if_neg c8] at H
    have c8b0 : decide (x13_1 < a0) = false := decide_eq_false c8
    clear c8
    obtain rfl := Option.some.inj H
    go_wp2
    go_ret
    exact ⟨_, by first | rfl | (simp [*, errW_none, errW_some] <;> rfl), by (with_reducible repeat (first | apply nA | apply nN | apply nD)); exact HO_3.out, by repeat (with_reducible first | exact HB.out | apply bA | apply bN | apply bD)⟩
theorem gl_set_self {α : Type} : ∀ {l : List α} {i : Nat} {x : α}, l[i]? = some x → l.set i x = l
 | y :: l, 0, x, h => by
  obtain rfl := Option.some.inj h
  rfl
 | y :: l, i + 1, x, h => by
  rw [s1_, gl_set_self (by simpa using h)]
theorem gl_kept {w w1 : World} {b : Nat} {u : Value} {x : List Int} (h : (Kd.int .i64).R 3 w b (fun _ => True) u x) (hm : ∀ k, u.ownBlock = some k → w1.heap[k]? = w.heap[k]?) : (Kd.int .i64).R 3 w1 b (fun _ => True) u x :=
 Kd.R_mono (Kd.R_move (Kd.R_tight rfl h) (fun k hk => hm k hk.symm)) (fun _ _ => trivial)
theorem flatG_pair : ∀ {g : List (S27 × Value × Value)}, ApartV (flatG g) → ∀ x, x ∈ g → ∀ k, x.2.1.ownBlock = some k → x.2.2.ownBlock ≠ some k
 | y :: g, h, x, hx, k, hk => by
  have e : flatG (y :: g) = [y.2.1, y.2.2] ++ flatG g := rfl
  rw [e] at h
  obtain ⟨h1, h2, _⟩ := List.pairwise_append.1 h
  rcases List.mem_cons.1 hx with rfl | hx
  ·exact (List.pairwise_cons.1 h1).1 _ (List.mem_singleton.2 rfl) k hk
  ·exact flatG_pair h2 x hx k hk
structure GLs (b : Nat) (w : World) (base : Nat) (v : Value) (g : List (S27 × Value × Value)) : Prop where
 row : (Kd.raw 3).R 27 w base (fun k => some k = v.ownBlock) v (g.map fun x => [x.2.1, x.2.2, .int .i64 x.1.f2])
 els : ∀ x, x ∈ g → (Kd.int .i64).R 3 w b (fun _ => True) x.2.1 x.1.f0 ∧ (Kd.int .i64).R 3 w b (fun _ => True) x.2.2 x.1.f1
theorem GLs.of_N {b base : Nat} {w : World} {ok : Nat → Prop} {v : Value} {g : List (S27 × Value × Value)} (h : Kd.N (gSt b) 27 w base ok v g) : GLs b w base v g := by
 obtain ⟨h0, rows, hl, hR, hf⟩ := h
 have e : rows = g.map fun x => [x.2.1, x.2.2, .int .i64 x.1.f2] := by
  apply List.ext_getElem?
  intro j
  rw [List.getElem?_map]
  cases hj : g[j]? with
  | none =>
   rw [List.getElem?_eq_none_iff] at hj
   rw [List.getElem?_eq_none (by omega)]; rfl
  | some x =>
   have hjl := (List.getElem?_eq_some_iff.1 hj).1
   have hc := List.getElem?_eq_getElem (l := rows) (i := j) (by omega)
   rw [hc, (Kd.FK_now (hf j x _ hj hc)).1]; rfl
 refine ⟨by rw [← e]; exact hR, fun x hx => ?_⟩
 obtain ⟨j, hj⟩ := List.mem_iff_getElem?.1 hx
 have hjl := (List.getElem?_eq_some_iff.1 hj).1
 exact (Kd.FK_now (hf j x _ hj (List.getElem?_eq_getElem (by omega)))).2
theorem GLs.to_N {b base : Nat} {w : World} {v : Value} {g : List (S27 × Value × Value)} (h : GLs b w base v g) : Kd.N (gSt b) 27 w base (fun _ => True) v g := by
 refine ⟨fun _ _ => trivial, _, by simp, h.row, fun j x c hx hc => ?_⟩
 rw [List.getElem?_map, hx] at hc
 obtain rfl := Option.some.inj hc
 obtain ⟨h1, h2⟩ := h.els x (List.mem_of_getElem? hx)
 have hne : ∀ u : Value, (∃ y, (Kd.int .i64).R 3 w b (fun _ => True) u y) → ∀ k, some k = u.ownBlock → some k ≠ v.ownBlock := by
  rintro u ⟨y, hy⟩ k hk e
  obtain ⟨c1, e1⟩ := Kd.R_typed hy k hk.symm
  obtain ⟨c2, e2⟩ := Kd.R_typed h.row k e.symm
  rw [e1] at e2
  injection e2 with e2
  injection e2 with _ e2
  exact absurd e2 (by decide)
 exact fun W' hW => ⟨rfl, gl_kept h1 (fun k hk => hW k ⟨trivial, hne _ ⟨_, h1⟩ k hk.symm⟩ (Kd.R_lt h1 k hk)), gl_kept h2 (fun k hk => hW k ⟨trivial, hne _ ⟨_, h2⟩ k hk.symm⟩ (Kd.R_lt h2 k hk))⟩
theorem GLs.ne {b base : Nat} {w : World} {v : Value} {g : List (S27 × Value × Value)} (h : GLs b w base v g) {u : Value} {y : List Int} {e0 : Nat} {ok : Nat → Prop} (hy : (Kd.int .i64).R 3 w e0 ok u y) (k : Nat) (hk : u.ownBlock = some k) : v.ownBlock ≠ some k := by
 intro e
 obtain ⟨c1, e1⟩ := Kd.R_typed hy k hk
 obtain ⟨c2, e2⟩ := Kd.R_typed h.row k e
 rw [e1] at e2
 injection e2 with e2
 injection e2 with _ e2
 exact absurd e2 (by decide)
theorem GLs.step {b base : Nat} {w w1 : World} {v : Value} {g : List (S27 × Value × Value)} (h : GLs b w base v g) (hv : ∀ k, k < w.heap.size → v.ownBlock = some k → w1.heap[k]? = w.heap[k]?) (hm : ∀ u, u ∈ flatG g → ∀ k, k < w.heap.size → u.ownBlock = some k → w1.heap[k]? = w.heap[k]?) : GLs b w1 base v g := by
 refine ⟨Kd.R_move h.row (fun k hk => hv k (Kd.R_lt h.row k hk.symm) hk.symm), fun x hx => ?_⟩
 obtain ⟨h1, h2⟩ := h.els x hx
 have m1 : x.2.1 ∈ flatG g := List.mem_flatMap.2 ⟨x, hx, by simp⟩
 have m2 : x.2.2 ∈ flatG g := List.mem_flatMap.2 ⟨x, hx, by simp⟩
 exact ⟨gl_kept h1 (fun k hk => hm _ m1 k (Kd.R_lt h1 k hk) hk), gl_kept h2 (fun k hk => hm _ m2 k (Kd.R_lt h2 k hk) hk)⟩
theorem GLs.below {b base : Nat} {w w1 : World} {v : Value} {g : List (S27 × Value × Value)} (h : GLs b w base v g) (hb : Below w.heap.size w w1) : GLs b w1 base v g := h.step (fun k hk _ => hb.block k hk) (fun _ _ k hk _ => hb.block k hk)
theorem GLs.lower {b b' base base' : Nat} {w : World} {v : Value} {g : List (S27 × Value × Value)} (h : GLs b w base v g) (hb : b' ≤ b) (hb' : base' ≤ base) : GLs b' w base' v g :=
 ⟨Kd.R_lower h.row hb', fun x hx => ⟨Kd.R_lower (h.els x hx).1 hb, Kd.R_lower (h.els x hx).2 hb⟩⟩
theorem GLs.nil (b : Nat) (w : World) (base : Nat) : GLs b w base (.slice none 0 0) [] := ⟨Kd.R_nil _ _ _ _ _, fun x hx => by cases hx⟩
theorem GLs.reads {b base : Nat} {w : World} {v : Value} {g : List (S27 × Value × Value)} (h : GLs b w base v g) : ∃ A c, v = .slice A (g.map Prod.fst).length c ∧ (g.map Prod.fst).length ≤ c ∧ Kd.C k27 w A (g.map Prod.fst).length (g.map Prod.fst) := by
 have h1 := (gSt_map Prod.fst rfl (gSt_k b) h.to_N)
 obtain ⟨A, c, e⟩ := Kd.N_slice h1
 rw [e] at h1
 exact ⟨A, c, e, (Kd.N_reads' h1).2.1, (Kd.N_reads' h1).2.2⟩
theorem GLs.at {b base : Nat} {w : World} {ad : Addr} {n c : Nat} {g : List (S27 × Value × Value)} (h : GLs b w base (.slice (some ad) n c) g) (i : Int) (h0 : 0 ≤ i) (h1 : i < n) (x : S27 × Value × Value) (hx : g[i.toNat]? = some x) :
 w.cell? (ad.add (i.toNat * 3)) = some x.2.1 ∧ w.cell? ⟨(ad.add (i.toNat * 3)).block, (ad.add (i.toNat * 3)).off + 1, none⟩ = some x.2.2 ∧ w.cell? ⟨(ad.add (i.toNat * 3)).block, (ad.add (i.toNat * 3)).off + 2, none⟩ = some (.int .i64 x.1.f2) := by
 obtain ⟨c, hcl, hM, hcc⟩ := Kd.N_get h.to_N (z27, .slice none 0 0, .slice none 0 0) i h0 h1
 have e : g.getD i.toNat (z27, .slice none 0 0, .slice none 0 0) = x := by rw [List.getD_eq_getElem?_getD, hx]; rfl
 rw [e] at hM
 have hc := (Kd.FK_now hM).1
 rw [hc] at hcc
 have x0 := hcc 0 _ rfl
 have x1 := hcc 1 _ rfl
 have x2 := hcc 2 _ rfl
 rw [Nat.add_zero, show (gSt b).sz = 3 from rfl] at x0
 rw [show (gSt b).sz = 3 from rfl, add_field _ _ 1 (by omega)] at x1
 rw [show (gSt b).sz = 3 from rfl, add_field _ _ 2 (by omega)] at x2
 exact ⟨x0, x1, x2⟩
theorem flatG_set : ∀ (g : List (S27 × Value × Value)) (i : Nat) (s : S27) (x : S27 × Value × Value), g[i]? = some x → flatG (g.set i (s, x.2.1, x.2.2)) = flatG g
 | [], i, s, x, h => by simp at h
 | y :: g, 0, s, x, h => by
  obtain rfl := Option.some.inj h
  rfl
 | y :: g, i + 1, s, x, h => by
  have h2 := flatG_set g i s x (by simpa using h)
  show [y.2.1, y.2.2] ++ flatG (g.set i (s, x.2.1, x.2.2)) = [y.2.1, y.2.2] ++ flatG g
  rw [h2]
theorem flatG_apart : ∀ {g : List (S27 × Value × Value)}, ApartV (flatG g) → ∀ (i j : Nat) (x y : S27 × Value × Value), g[i]? = some x → g[j]? = some y → i ≠ j → ∀ u, u ∈ [x.2.1, x.2.2] → ∀ u', u' ∈ [y.2.1, y.2.2] → ∀ k, u.ownBlock = some k → u'.ownBlock ≠ some k
 | z :: g, h, i, j, x, y, hx, hy, hij, u, hu, u', hu', k, hk => by
  have e : flatG (z :: g) = [z.2.1, z.2.2] ++ flatG g := rfl
  rw [e] at h
  obtain ⟨_, h2, h3⟩ := List.pairwise_append.1 h
  rcases i with _ | i
  ·rcases j with _ | j
   ·exact absurd rfl hij
   ·obtain rfl := Option.some.inj (show some z = some x from hx)
    exact h3 u hu u' (List.mem_flatMap.2 ⟨y, List.mem_of_getElem? (by simpa using hy), hu'⟩) k hk
  ·rcases j with _ | j
   ·obtain rfl := Option.some.inj (show some z = some y from hy)
    exact fun hk2 => h3 u' hu' u (List.mem_flatMap.2 ⟨x, List.mem_of_getElem? (by simpa using hx), hu⟩) k hk2 hk
   ·exact flatG_apart h2 i j x y (by simpa using hx) (by simpa using hy) (by omega) u hu u' hu' k hk
theorem GLs.set0 {b base : Nat} {w w1 : World} {v : Value} {g : List (S27 × Value × Value)} (h : GLs b w base v g) (ha : ApartV (flatG g)) (i : Nat) (x : S27 × Value × Value) (hx : g[i]? = some x) {y : List Int} (hm : ∀ k, k < w.heap.size → some k ≠ x.2.1.ownBlock → w1.heap[k]? = w.heap[k]?) {e0 : Nat} {ok : Nat → Prop} (hy : (Kd.int .i64).R 3 w1 e0 ok x.2.1 y) (he : b ≤ e0) : GLs b w1 base v (g.set i ((⟨y, x.1.f1, x.1.f2⟩ : S27), x.2.1, x.2.2)) := by
 obtain ⟨hx1, hx2⟩ := h.els x (List.mem_of_getElem? hx)
 have hil := (List.getElem?_eq_some_iff.1 hx).1
 have hxe := (List.getElem?_eq_some_iff.1 hx).2
 refine ⟨?_, fun z hz => ?_⟩
 ·have e : (g.set i ((⟨y, x.1.f1, x.1.f2⟩ : S27), x.2.1, x.2.2)).map (fun x => [x.2.1, x.2.2, .int .i64 x.1.f2]) = g.map (fun x => [x.2.1, x.2.2, .int .i64 x.1.f2]) := by
   rw [List.map_set]
   exact gl_set_self (by rw [List.getElem?_map, hx]; rfl)
  rw [e]
  exact Kd.R_move h.row (fun k hk => hm k (Kd.R_lt h.row k hk.symm) (fun e => h.ne hx1 k e.symm hk.symm))
 ·obtain ⟨j, hj⟩ := List.mem_iff_getElem?.1 hz
  by_cases hij : i = j
  ·subst hij
   rw [List.getElem?_set_self hil] at hj
   obtain rfl := Option.some.inj hj
   exact ⟨Kd.R_mono (Kd.R_lower hy he) (fun _ _ => trivial), gl_kept hx2 (fun k hk => hm k (Kd.R_lt hx2 k hk) (fun e => flatG_pair ha x (List.mem_of_getElem? hx) k e.symm hk))⟩
  ·rw [List.getElem?_set_ne hij] at hj
   obtain ⟨hz1, hz2⟩ := h.els z (List.mem_of_getElem? hj)
   exact ⟨gl_kept hz1 (fun k hk => hm k (Kd.R_lt hz1 k hk) (fun e => flatG_apart ha i j x z hx hj hij x.2.1 (by simp) z.2.1 (by simp) k e.symm hk)), gl_kept hz2 (fun k hk => hm k (Kd.R_lt hz2 k hk) (fun e => flatG_apart ha i j x z hx hj hij x.2.1 (by simp) z.2.2 (by simp) k e.symm hk))⟩
theorem GLs.set1 {b base : Nat} {w w1 : World} {v : Value} {g : List (S27 × Value × Value)} (h : GLs b w base v g) (ha : ApartV (flatG g)) (i : Nat) (x : S27 × Value × Value) (hx : g[i]? = some x) {y : List Int} (hm : ∀ k, k < w.heap.size → some k ≠ x.2.2.ownBlock → w1.heap[k]? = w.heap[k]?) {e0 : Nat} {ok : Nat → Prop} (hy : (Kd.int .i64).R 3 w1 e0 ok x.2.2 y) (he : b ≤ e0) : GLs b w1 base v (g.set i ((⟨x.1.f0, y, x.1.f2⟩ : S27), x.2.1, x.2.2)) := by
 obtain ⟨hx1, hx2⟩ := h.els x (List.mem_of_getElem? hx)
 have hil := (List.getElem?_eq_some_iff.1 hx).1
 refine ⟨?_, fun z hz => ?_⟩
 ·have e : (g.set i ((⟨x.1.f0, y, x.1.f2⟩ : S27), x.2.1, x.2.2)).map (fun x => [x.2.1, x.2.2, .int .i64 x.1.f2]) = g.map (fun x => [x.2.1, x.2.2, .int .i64 x.1.f2]) := by
   rw [List.map_set]
   exact gl_set_self (by rw [List.getElem?_map, hx]; rfl)
  rw [e]
  exact Kd.R_move h.row (fun k hk => hm k (Kd.R_lt h.row k hk.symm) (fun e => h.ne hx2 k e.symm hk.symm))
 ·obtain ⟨j, hj⟩ := List.mem_iff_getElem?.1 hz
  by_cases hij : i = j
  ·subst hij
   rw [List.getElem?_set_self hil] at hj
   obtain rfl := Option.some.inj hj
   exact ⟨gl_kept hx1 (fun k hk => hm k (Kd.R_lt hx1 k hk) (fun e => flatG_pair ha x (List.mem_of_getElem? hx) k hk e.symm)), Kd.R_mono (Kd.R_lower hy he) (fun _ _ => trivial)⟩
  ·rw [List.getElem?_set_ne hij] at hj
   obtain ⟨hz1, hz2⟩ := h.els z (List.mem_of_getElem? hj)
   exact ⟨gl_kept hz1 (fun k hk => hm k (Kd.R_lt hz1 k hk) (fun e => flatG_apart ha i j x z hx hj hij x.2.2 (by simp) z.2.1 (by simp) k e.symm hk)), gl_kept hz2 (fun k hk => hm k (Kd.R_lt hz2 k hk) (fun e => flatG_apart ha i j x z hx hj hij x.2.2 (by simp) z.2.2 (by simp) k e.symm hk))⟩
theorem GLs.set2 {b base : Nat} {w : World} {gb n cap : Nat} {g : List (S27 × Value × Value)} (h : GLs b w base (.slice (some ⟨gb, 0, none⟩) n cap) g) (i : Nat) (x : S27 × Value × Value) (hx : g[i]? = some x) (c : Int) : GLs b (w.setCell ⟨gb, i * 3 + 2, none⟩ (.int .i64 c)) base (.slice (some ⟨gb, 0, none⟩) n cap) (g.set i ((⟨x.1.f0, x.1.f1, c⟩ : S27), x.2.1, x.2.2)) := by
 have hil := (List.getElem?_eq_some_iff.1 hx).1
 have hne := fun (u : Value) (y : List Int) (hy : (Kd.int .i64).R 3 w b (fun _ => True) u y) (k : Nat) (hk : u.ownBlock = some k) => h.ne hy k hk
 refine ⟨?_, fun z hz => ?_⟩
 ·obtain ⟨hok, inner, ho, hr⟩ := h.row
  have hsz : (Kd.raw 3).sz = 3 := rfl
  rw [hsz] at ho hr
  rcases ho.2 with ⟨_, hz⟩ | ⟨g2, cap2, cur, e2, hbg, hg, hncap, hcap, hcs, htake⟩
  ·rw [List.length_map] at hz; omega
  injection e2 with e3 e4 e5
  injection e3 with e3
  injection e3 with e3
  subst e3
  subst e5
  rw [List.length_map] at e4 hncap htake
  have hlen := ho.1
  rw [List.length_map] at hlen
  have hp : i * 3 + 2 < cur.size := by rw [hcs]; omega
  refine ⟨hok, inner.set (i * 3 + 2) (.int .i64 c), ⟨by rw [List.length_set, List.length_map, List.length_set, hlen]; rfl, .inr ⟨gb, cap, cur.setIfInBounds (i * 3 + 2) (.int .i64 c), by rw [List.length_map, List.length_set, e4], hbg, blk_put hg _ _ rfl, by rw [List.length_map, List.length_set]; exact hncap, hcap, by rw [Array.size_setIfInBounds]; exact hcs, ?_⟩⟩, ?_, fun j p hj => ?_⟩
  ·rw [List.length_map, List.length_set, hsz, ← htake, Array.toList_setIfInBounds, List.take_set]
  ·rw [List.length_set, List.length_map, List.length_set, hlen]; rfl
  ·show (Kd.raw 3).M _ _ _ p (((inner.set (i * 3 + 2) (.int .i64 c)).drop (j * 3)).take 3)
   rw [List.getElem?_map] at hj
   obtain ⟨y, hy, rfl⟩ := Option.map_eq_some_iff.1 hj
   by_cases hij : i = j
   ·subst hij
    rw [List.getElem?_set_self hil] at hy
    obtain rfl := Option.some.inj hy
    have h1 := hr.2 i [x.2.1, x.2.2, .int .i64 x.1.f2] (by rw [List.getElem?_map, hx]; rfl)
    have h2 : (inner.drop (i * 3)).take 3 = [x.2.1, x.2.2, .int .i64 x.1.f2] := h1.1
    have e : ((inner.set (i * 3 + 2) (.int .i64 c)).drop (i * 3)).take 3 = [x.2.1, x.2.2, .int .i64 c] := row3.chunk_of rfl (fun q hq => by
     have h3 := row3.chunk_get h2 hq
     by_cases hq2 : q = 2
     ·subst hq2
      rw [List.getElem?_set_self (by rw [hlen]; omega)]; rfl
     ·rw [List.getElem?_set_ne (by omega), h3]
      match q, hq, hq2 with
      | 0, _, _ => rfl
      | 1, _, _ => rfl
      | z + 2, h5, h6 => exact absurd (show z + 2 = 2 by omega) h6)
    rw [e]
    refine ⟨rfl, rfl, fun u hu => ?_⟩
    rcases List.mem_cons.1 hu with rfl | hu
    ·have h4 := h1.2.2; rw [h2] at h4; exact h4 _ (by simp)
    ·rcases List.mem_cons.1 hu with rfl | hu
     ·have h4 := h1.2.2; rw [h2] at h4; exact h4 _ (by simp)
     ·obtain rfl := List.mem_singleton.1 hu
      rfl
   ·rw [List.getElem?_set_ne hij] at hy
    have h1 := hr.2 j [y.2.1, y.2.2, .int .i64 y.1.f2] (by rw [List.getElem?_map, hy]; rfl)
    have h2 : (inner.drop (j * 3)).take 3 = [y.2.1, y.2.2, .int .i64 y.1.f2] := h1.1
    have e : ((inner.set (i * 3 + 2) (.int .i64 c)).drop (j * 3)).take 3 = [y.2.1, y.2.2, .int .i64 y.1.f2] := row3.chunk_of rfl (fun q hq => by
     rw [List.getElem?_set_ne (by omega)]; exact row3.chunk_get h2 hq)
    rw [e]
    rw [h2] at h1
    exact h1
 ·have hmv : ∀ (u : Value) (y : List Int), (Kd.int .i64).R 3 w b (fun _ => True) u y → (Kd.int .i64).R 3 (w.setCell ⟨gb, i * 3 + 2, none⟩ (.int .i64 c)) b (fun _ => True) u y := fun u y hy => gl_kept hy (fun k hk => Below.heap_setCell w _ _ k (fun e => hne u y hy k hk (by show some gb = some k; rw [e])))
  obtain ⟨j, hj⟩ := List.mem_iff_getElem?.1 hz
  by_cases hij : i = j
  ·subst hij
   rw [List.getElem?_set_self hil] at hj
   obtain rfl := Option.some.inj hj
   obtain ⟨h1, h2⟩ := h.els x (List.mem_of_getElem? hx)
   exact ⟨hmv _ _ h1, hmv _ _ h2⟩
  ·rw [List.getElem?_set_ne hij] at hj
   obtain ⟨h1, h2⟩ := h.els z (List.mem_of_getElem? hj)
   exact ⟨hmv _ _ h1, hmv _ _ h2⟩
def BlkG (g : List (S27 × Value × Value)) (k : Nat) : Prop := ∃ u, u ∈ flatG g ∧ u.ownBlock = some k
theorem GLs.ad_add (gb j : Nat) : (⟨gb, 0, none⟩ : Addr).add j = ⟨gb, j, none⟩ := by
 by_cases h : j = 0
 ·subst h; rfl
 ·simp [Addr.add, h]
theorem GLs.head {b base : Nat} {w : World} {ad : Addr} {n cap : Nat} {g : List (S27 × Value × Value)} (h : GLs b w base (.slice (some ad) n cap) g) (hp : 0 < g.length) : ∃ gb cur, ad = ⟨gb, 0, none⟩ ∧ base ≤ gb ∧ w.heap[gb]? = some (.cells cur 27 (0, 0)) := by
 obtain ⟨gb, cap9, he, hb, _, cur, hc⟩ := Kd.N_form h.to_N hp
 injection he with he
 injection he with he
 exact ⟨gb, cur, he, hb, hc⟩
theorem GLs.fz {b base : Nat} {w : World} {ad : Addr} {n cap : Nat} {g : List (S27 × Value × Value)} (h : GLs b w base (.slice (some ad) n cap) g) (hp : 0 < g.length) (j : Nat) : w.frozen? ⟨(ad.add j).block, (ad.add j).off + 2, none⟩ = false := by
 obtain ⟨gb, cur, rfl, _, hc⟩ := h.head hp
 rw [GLs.ad_add]
 simp [World.frozen?, hc]
theorem GLs.put {b base : Nat} {w : World} {ad : Addr} {n cap : Nat} {g : List (S27 × Value × Value)} (h : GLs b w base (.slice (some ad) n cap) g) (i : Nat) (x : S27 × Value × Value) (hx : g[i]? = some x) (c : Int) : GLs b (w.setCell ⟨(ad.add (i * 3)).block, (ad.add (i * 3)).off + 2, none⟩ (.int .i64 c)) base (.slice (some ad) n cap) (g.set i ((⟨x.1.f0, x.1.f1, c⟩ : S27), x.2.1, x.2.2)) := by
 have hil := (List.getElem?_eq_some_iff.1 hx).1
 obtain ⟨gb, cur, rfl, _, hc⟩ := h.head (by omega)
 have h2 := h.set2 i x hx c
 have e : (⟨((⟨gb, 0, none⟩ : Addr).add (i * 3)).block, ((⟨gb, 0, none⟩ : Addr).add (i * 3)).off + 2, none⟩ : Addr) = ⟨gb, i * 3 + 2, none⟩ := by rw [GLs.ad_add]
 rw [e]
 exact h2
theorem GLs.put_below {b base : Nat} {w0 w : World} {ad : Addr} {n cap : Nat} {g : List (S27 × Value × Value)} (h : GLs b w w0.heap.size (.slice (some ad) n cap) g) (hp : 0 < g.length) (hB : Below w0.heap.size w0 w) (j : Nat) (u : Value) : Below w0.heap.size w0 (w.setCell ⟨(ad.add j).block, (ad.add j).off + 2, none⟩ u) := by
 obtain ⟨gb, cur, rfl, hb, _⟩ := h.head hp
 have e : (⟨((⟨gb, 0, none⟩ : Addr).add j).block, ((⟨gb, 0, none⟩ : Addr).add j).off + 2, none⟩ : Addr) = ⟨gb, j + 2, none⟩ := by rw [GLs.ad_add]
 rw [e]
 exact bS hB hb
def BlkV (v : Value) (g : List (S27 × Value × Value)) (k : Nat) : Prop := BlkG g k ∨ v.ownBlock = some k
def impl_StatesAfter.f (k : Nat) (a0 : Int) : Option (List S27 × Bool) := (impl_in.f a0 0 6).bind fun t => (if t = true then ((impl_statesAfter.f k a0).bind fun xs => (some (xs, true))) else (some (([] : List S27), false)))
theorem impl_StatesAfter.mono : ∀ a0 k, LeO (impl_StatesAfter.f k a0) (impl_StatesAfter.f (k + 1) a0) := by
 intro a0 k
 unfold impl_StatesAfter.f
 exact LeO.bind (LeO.refl _) (fun t => LeO.ite (LeO.bind (impl_statesAfter.mono a0 k) (fun xs => LeO.refl _)) (LeO.refl _))
set_option maxHeartbeats 8000000 in
theorem impl_StatesAfter.calls (k : Nat) (a0 : Int) (r1 : List S27) (r2 : Bool) (w : World) (h : impl_StatesAfter.f k a0 = some (r1, r2)) :
 Calls Try.prog 32 #[.int .i64 a0] w fun e w' => ∃ (v0_ : Value) (g_ : List (S27 × Value × Value)), e = .returned (.tuple #[v0_, .bool r2]) ∧ g_.map Prod.fst = r1 ∧ ApartV (flatG g_) ∧ GLs w.heap.size w' w.heap.size v0_ g_ ∧ (∀ u, u ∈ flatG g_ → ∀ k_, u.ownBlock = some k_ → w.heap.size ≤ k_) ∧ Below w.heap.size w w' := by
 have HB := am (Below.refl w.heap.size w)
 obtain ⟨t, h1, h⟩ := Option.bind_eq_some_iff.1 h
 have HL := am (fun (W : World) => impl_in.calls a0 0 6 t W h1)
 clear h1
 cases t with
 | false =>
  rw [if_neg (by decide)] at h
  simp only [Option.some.injEq, Prod.mk.injEq] at h
  obtain ⟨rfl, rfl⟩ := h
  go_enter Try.func32, Try.ntmps32
  go_wp2_with (first | (go_at_call 56; refine (HL.out _).mono ?_; rintro e w' ⟨rfl, ⟨nd, rfl⟩⟩))
  go_ret2
  exact ⟨_, [], rfl, rfl, List.Pairwise.nil, GLs.nil _ _ _, fun u hu => by simp [flatG] at hu, pw_below_drewN HB.out nd⟩
 | true =>
  rw [if_pos rfl] at h
  obtain ⟨xs, h2, h⟩ := Option.bind_eq_some_iff.1 h
  simp only [Option.some.injEq, Prod.mk.injEq] at h
  obtain ⟨rfl, rfl⟩ := h
  have HS := am (fun (W : World) => impl_statesAfter.calls k a0 xs W h2)
  clear h2
  go_enter Try.func32, Try.ntmps32
  go_wp2_with (first | (go_at_call 56; refine (HL.out _).mono ?_; rintro e w' ⟨rfl, ⟨nd, rfl⟩⟩) | (go_at_call 61; refine (HS.out _).mono ?_; rintro e w2 ⟨v2, rfl, ⟨gg, hgm, hga, ho⟩, hb⟩; have HGM := am hgm; have HGA := am hga; have HN := am ((GLs.of_N ho).lower (below_size (pw_below_drewN HB.out nd)) (below_size (pw_below_drewN HB.out nd))); have HB2 := am (below_step (pw_below_drewN HB.out nd) hb); clear ho hb hgm hga))
  go_ret2
  refine ⟨_, gg, rfl, HGM.out, HGA.out, HN.out, fun u hu k_ hk => ?_, HB2.out⟩
  obtain ⟨x, hx, hu⟩ := List.mem_flatMap.1 hu
  obtain ⟨h1, h2⟩ := HN.out.els x hx
  rcases List.mem_cons.1 hu with rfl | hu
  ·exact Kd.R_base h1 k_ hk
  ·obtain rfl := List.mem_singleton.1 hu
   exact Kd.R_base h2 k_ hk
end Go.Proofs.Ytlbaldejaapbiaa.QFnExactStatesAfter
