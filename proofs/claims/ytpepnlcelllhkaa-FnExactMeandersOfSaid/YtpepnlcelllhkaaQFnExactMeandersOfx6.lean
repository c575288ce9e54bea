-- Written by wip/myprint.py (a program of mine round the kit's printer). Lean checks it.
import Derived.Test.YtpepnlcelllhkaaQFnExactMeandersOfx0
import Derived.Test.YtpepnlcelllhkaaQFnExactMeandersOfx3
import Derived.Test.YtpepnlcelllhkaaQFnExactMeandersOfx5
namespace Go.Proofs.Ytpepnlcelllhkaa.QFnExactMeandersOf
open Go.RowKit Go.Proofs.YtpepnlcelllhkaaW.PrintWords Go.Proofs.YtpepnlcelllhkaaW.PrintLast Go.Proofs.YtpepnlcelllhkaaW.PrintMore
attribute [local go_sem] max2_int min2_int max_two min_two max_three min_three max_four min_four   -- for this text's walks alone
set_option linter.unusedVariables false
set_option linter.unusedSimpArgs false

/-! ### impl_pairs: function 68 (by hand) -/
/-! ### Rows of one's own, told with their cells' values as ghosts -/
/-- A row of numbers of the call's own (from block b on), with the slice's value. -/
def gSl (b : Nat) : Kd (List Int × Value) where
  sz := 1
  E := []
  K := fun w x cs => cs = [x.2] ∧ (Kd.int .i64).R 3 w b (fun _ => True) x.2 x.1
  M := fun _ _ _ _ _ => False
  K_len := fun h => by rw [h.1]; rfl
  K_one := fun h u hu => by
    rw [h.1] at hu
    obtain rfl := List.mem_singleton.1 hu
    exact (Kd.R_val h.2).2
  K_below := fun hb h => ⟨h.1, Kd.R_below h.2 hb⟩
  K_of_M := fun h => h.elim
  M_mono := fun _ h => h.elim
  M_bound := fun h => h.elim
  M_move := fun _ h => h.elim
  M_lower := fun _ h => h.elim
/-- A pair of such rows. -/
def gPr (b : Nat) : Kd (S44 × Value × Value) where
  sz := 2
  E := []
  K := fun w x cs => cs = [x.2.1, x.2.2] ∧ (Kd.int .i64).R 3 w b (fun _ => True) x.2.1 x.1.f0 ∧ (Kd.int .i64).R 3 w b (fun _ => True) x.2.2 x.1.f1
  M := fun _ _ _ _ _ => False
  K_len := fun h => by rw [h.1]; rfl
  K_one := fun h u hu => by
    rw [h.1] at hu
    rcases List.mem_cons.1 hu with rfl | hu
    · exact (Kd.R_val h.2.1).2
    · obtain rfl := List.mem_singleton.1 hu
      exact (Kd.R_val h.2.2).2
  K_below := fun hb h => ⟨h.1, Kd.R_below h.2.1 hb, Kd.R_below h.2.2 hb⟩
  K_of_M := fun h => h.elim
  M_mono := fun _ h => h.elim
  M_bound := fun h => h.elim
  M_move := fun _ h => h.elim
  M_lower := fun _ h => h.elim
theorem N_map {α β : Type} {d : Kd α} {d' : Kd β} {e base : Nat} {w : World} {ok : Nat → Prop} {v : Value} {xs : List α} (φ : α → β) (hsz : d'.sz = d.sz) (hK : ∀ (W : World) (x : α) (cs : List Value), d.K W x cs → d'.K W (φ x) cs) (h : Kd.N d e w base ok v xs) : Kd.N d' e w base ok v (xs.map φ) := by
  obtain ⟨h0, rows, hl, hR, hf⟩ := h
  refine ⟨h0, rows, by rw [hl, List.length_map], by rw [hsz]; exact hR, fun j y c hy hc => ?_⟩
  rw [List.getElem?_map] at hy
  obtain ⟨x, hx, rfl⟩ := Option.map_eq_some_iff.1 hy
  exact fun W' hW => hK _ _ _ (hf j x c hx hc W' hW)
theorem gSl_slice (b : Nat) (W : World) (x : List Int × Value) (cs : List Value) (h : (gSl b).K W x cs) : (Kd.slice 3 (Kd.int .i64)).K W x.1 cs := by
  obtain ⟨rfl, hR⟩ := h
  obtain ⟨A, c, e⟩ := Kd.R_slice hR
  rw [e] at hR ⊢
  exact ⟨A, c, rfl, (Kd.R_reads' hR).2.1, (Kd.R_reads' hR).2.2⟩
theorem gPr_k (b : Nat) (W : World) (x : S44 × Value × Value) (cs : List Value) (h : (gPr b).K W x cs) : k44.K W x.1 cs := by
  obtain ⟨rfl, h1, h2⟩ := h
  obtain ⟨A, c, e⟩ := Kd.R_slice h1
  obtain ⟨B, d, e2⟩ := Kd.R_slice h2
  rw [e] at h1 ⊢
  rw [e2] at h2 ⊢
  exact k44_mk W x.1 (Kd.R_reads' h1).2.1 (Kd.R_reads' h1).2.2 (Kd.R_reads' h2).2.1 (Kd.R_reads' h2).2.2
theorem N_sl {b e base : Nat} {w : World} {ok : Nat → Prop} {v : Value} {xs : List (List Int)} {vs : List Value} (hl : vs.length = xs.length) (h : Kd.N (gSl b) e w base ok v (xs.zip vs)) : Kd.N (Kd.slice 3 (Kd.int .i64)) e w base ok v xs := by
  have h2 := N_map Prod.fst (d' := Kd.slice 3 (Kd.int .i64)) rfl (gSl_slice b) h
  rwa [List.map_fst_zip (by omega)] at h2
theorem N_pr {b e base : Nat} {w : World} {ok : Nat → Prop} {v : Value} {g : List (S44 × Value × Value)} (h : Kd.N (gPr b) e w base ok v g) : Kd.N k44 e w base ok v (g.map Prod.fst) := N_map Prod.fst rfl (gPr_k b) h
/-- No two lead to one block. -/
def ApartV (vs : List Value) : Prop := vs.Pairwise (fun u v => ∀ k, u.ownBlock = some k → v.ownBlock ≠ some k)
theorem S_ghost {b e base : Nat} {w : World} {ok : Nat → Prop} {v : Value} {xs : List (List Int)} (h : Kd.S (Kd.slice 3 (Kd.int .i64)) e w base ok v xs) (hb : b ≤ base) :
    ∃ vs : List Value, vs.length = xs.length ∧ Kd.N (gSl b) e w base ok v (xs.zip vs) ∧ ApartV vs ∧ ∀ u, u ∈ vs → ∀ k, u.ownBlock = some k → base ≤ k ∧ k < w.heap.size := by
  obtain ⟨f, hok, inner, ho, hr⟩ := h
  have hsz : (Kd.tag f (Kd.slice 3 (Kd.int .i64))).sz = 1 := rfl
  rw [hsz] at ho hr
  rw [List.length_zipIdx] at ho
  have hil : inner.length = xs.length := by have := hr.1; simpa using this
  have hM : ∀ (i : Nat) (u : Value) (x : List Int), inner[i]? = some u → xs[i]? = some x → (Kd.int .i64).R 3 w base (fun k => (ok k ∧ some k ≠ v.ownBlock) ∧ f k = i) u x := by
    intro i u x hu hx
    have h1 := hr.2 i (x, i) (by rw [List.getElem?_zipIdx, hx]; simp)
    obtain ⟨hil', rfl⟩ := List.getElem?_eq_some_iff.1 hu
    rw [Nat.mul_one, List.drop_eq_getElem_cons hil', List.take_succ_cons, List.take_zero] at h1
    obtain ⟨v', e, h2⟩ := h1
    injection e with e
    rw [e]
    exact h2
  have hx : ∀ (i : Nat) (u : Value), inner[i]? = some u → ∃ x, xs[i]? = some x := fun i u hu => by
    have := (List.getElem?_eq_some_iff.1 hu).1
    exact ⟨xs[i]'(by omega), List.getElem?_eq_getElem (by omega)⟩
  refine ⟨inner, hil, ⟨hok, Kd.chunks 1 xs.length inner, ?_, ⟨fun k hk => hk.symm, inner, ?_, ?_⟩, ?_⟩, ?_, ?_⟩
  · rw [Kd.chunks_length, List.length_zip, hil]; omega
  · rw [Kd.chunks_length]; exact ho
  · refine ⟨by rw [Kd.chunks_length, hil]; exact (Nat.mul_one _).symm, fun j p hp => ?_⟩
    have hjl : j < xs.length := by have := (List.getElem?_eq_some_iff.1 hp).1; rwa [Kd.chunks_length] at this
    have e := Kd.chunks_get hp
    have hjl' : j < inner.length := by omega
    refine ⟨e.symm, ?_, ?_⟩
    · rw [show (Kd.raw (gSl b).sz).sz = 1 from rfl, Nat.mul_one, List.drop_eq_getElem_cons hjl', List.take_succ_cons, List.take_zero]; rfl
    · intro u hu
      rw [show (Kd.raw (gSl b).sz).sz = 1 from rfl, Nat.mul_one, List.drop_eq_getElem_cons hjl', List.take_succ_cons, List.take_zero] at hu
      obtain rfl := List.mem_singleton.1 hu
      exact (Kd.R_val (hM j _ _ (List.getElem?_eq_getElem hjl') (List.getElem?_eq_getElem hjl))).2
  · intro j p c hp hc
    rw [List.getElem?_zip_eq_some] at hp
    have e := Kd.chunks_get hc
    obtain ⟨hjl', e2⟩ := List.getElem?_eq_some_iff.1 hp.2
    rw [Nat.mul_one, List.drop_eq_getElem_cons hjl', List.take_succ_cons, List.take_zero, e2] at e
    subst e
    exact fun W' hW => ⟨rfl, Kd.R_mono (Kd.R_step (Kd.R_lower (hM j _ _ hp.2 hp.1) hb) (fun k hk hlt => hW k hk.1 hlt)) (fun _ _ => trivial)⟩
  · refine List.pairwise_iff_getElem.2 fun i j hi hj hij k hk hk2 => ?_
    obtain ⟨x, hx1⟩ := hx i _ (List.getElem?_eq_getElem hi)
    obtain ⟨y, hy1⟩ := hx j _ (List.getElem?_eq_getElem hj)
    have h1 := ((hM i _ x (List.getElem?_eq_getElem hi) hx1).1 k hk).2
    have h2 := ((hM j _ y (List.getElem?_eq_getElem hj) hy1).1 k hk2).2
    omega
  · intro u hu k hk
    obtain ⟨i, hi⟩ := List.mem_iff_getElem?.1 hu
    obtain ⟨x, hx1⟩ := hx i _ hi
    exact ⟨Kd.R_base (hM i _ x hi hx1) k hk, Kd.R_lt (hM i _ x hi hx1) k hk⟩
theorem gSl_at {b e base : Nat} {W : World} {ok : Nat → Prop} {ad : Addr} {n cap : Nat} {xs : List (List Int)} {vs : List Value} (hl : vs.length = xs.length) (h : Kd.N (gSl b) e W base ok (.slice (some ad) n cap) (xs.zip vs)) (i : Int) (h0 : 0 ≤ i) (h1 : i < xs.length) {u : Value} (hu : W.cell? (ad.add i.toNat) = some u) :
    vs[i.toNat]? = some u ∧ Kd.FK (gSl b) W (fun k => ok k ∧ some k ≠ (Value.slice (some ad) n cap).ownBlock) (rd_L1 xs i, u) [u] := by
  have hn := (Kd.N_reads' h).1
  rw [List.length_zip] at hn
  obtain ⟨c, hcl, hM, hcc⟩ := Kd.N_get h ([], .slice none 0 0) i h0 (by omega)
  have hit : i.toNat < xs.length := by omega
  have hz : (xs.zip vs).getD i.toNat ([], .slice none 0 0) = (rd_L1 xs i, vs[i.toNat]'(by omega)) := by
    rw [List.getD_eq_getElem?_getD, List.getElem?_eq_getElem (by rw [List.length_zip]; omega), Option.getD_some, List.getElem_zip]
    unfold rd_L1
    rw [List.getD_eq_getElem?_getD, List.getElem?_eq_getElem hit]; rfl
  rw [hz] at hM
  have hc := (Kd.FK_now hM).1
  rw [hc] at hM hcc
  have h2 := hcc 0 _ rfl
  rw [Nat.add_zero, show (gSl b).sz = 1 from rfl, Nat.mul_one] at h2
  have h3 := Option.some.inj (h2.symm.trans hu)
  simp only at h3
  rw [h3] at hM
  exact ⟨by rw [List.getElem?_eq_getElem (by omega), h3], hM⟩
theorem gPr_mkF {b : Nat} {W : World} {ok : Nat → Prop} {x y : List Int} {u v : Value} (hx : (Kd.int .i64).R 3 W b ok u x) (hy : Kd.FK (gSl b) W ok (y, v) [v]) : Kd.FK (gPr b) W ok ((⟨x, y⟩ : S44), u, v) [u, v] :=
  fun W' hW => ⟨rfl, Kd.R_mono (Kd.R_step hx (fun k hk hlt => hW k hk hlt)) (fun _ _ => trivial), (hy W' hW).2⟩
theorem FK_elder {α : Type} {d : Kd α} {W w1 : World} {ok : Nat → Prop} {x : α} {c : List Value} {u : Value} (h : Kd.FK d W ok x c) (hbase : ∀ k, u.ownBlock = some k → W.heap.size ≤ k) (hb : Below W.heap.size W w1) : Kd.FK d w1 (fun k => ok k ∧ some k ≠ u.ownBlock) x c :=
  Kd.FK_mono (Kd.FK_below (Kd.FK_bound h) hb) (fun k hk => ⟨hk.1, fun he => by have := hbase k he.symm; have := hk.2; omega⟩)
theorem N_maxLen {α : Type} {d : Kd α} {e base : Nat} {w : World} {ok : Nat → Prop} {v : Value} {xs : List α} (h : Kd.N d e w base ok v xs) : xs.length ≤ maxLen := by
  obtain ⟨_, rows, hl, hR, _⟩ := h
  obtain ⟨_, inner, ho, _⟩ := hR
  rcases ho.2 with ⟨_, hz⟩ | ⟨g, cap, cur, _, _, _, hncap, hcap, _⟩
  · omega
  · omega
/-- The values, one behind the other. -/
def flatG (g : List (S44 × Value × Value)) : List Value := g.flatMap fun p => [p.2.1, p.2.2]
theorem flatG_snoc (g : List (S44 × Value × Value)) (s : S44) (a b : Value) : flatG (g ++ [(s, a, b)]) = flatG g ++ [a, b] := by simp [flatG]
theorem flatG_pair : ∀ {g : List (S44 × Value × Value)}, ApartV (flatG g) → ∀ x, x ∈ g → ∀ k, x.2.1.ownBlock = some k → x.2.2.ownBlock ≠ some k
  | y :: g, h, x, hx, k, hk => by
    have e : flatG (y :: g) = [y.2.1, y.2.2] ++ flatG g := rfl
    rw [e] at h
    obtain ⟨h1, h2, _⟩ := List.pairwise_append.1 h
    rcases List.mem_cons.1 hx with rfl | hx
    · exact (List.pairwise_cons.1 h1).1 _ (List.mem_singleton.2 rfl) k hk
    · exact flatG_pair h2 x hx k hk
/-- While the rows vs (blocks from H0 to H1) are handed over: what is there is older, newer, or of vs's first j. -/
structure Inn (H0 H1 H : Nat) (vs : List Value) (j : Int) (g : List (S44 × Value × Value)) : Prop where
  apart : ApartV (flatG g)
  lt : ∀ u, u ∈ flatG g → ∀ k, u.ownBlock = some k → k < H
  src : ∀ u, u ∈ flatG g → ∀ k, u.ownBlock = some k → k < H0 ∨ H1 ≤ k ∨ ∃ i : Nat, (i : Int) < j ∧ ∃ x : Value, vs[i]? = some x ∧ x.ownBlock = some k
  le : H1 ≤ H
theorem Inn.start {H0 H1 H : Nat} (vs : List Value) {g : List (S44 × Value × Value)} (ha : ApartV (flatG g)) (hl : ∀ u, u ∈ flatG g → ∀ k, u.ownBlock = some k → k < H0) (h1 : H0 ≤ H) (h2 : H1 ≤ H) : Inn H0 H1 H vs 0 g :=
  ⟨ha, fun u hu k hk => Nat.lt_of_lt_of_le (hl u hu k hk) h1, fun u hu k hk => .inl (hl u hu k hk), h2⟩
theorem Inn.push {H0 H1 H H' : Nat} {vs : List Value} {j : Int} {g : List (S44 × Value × Value)} (h : Inn H0 H1 H vs j g) (hv : ApartV vs) (hvb : ∀ u, u ∈ vs → ∀ k, u.ownBlock = some k → H0 ≤ k ∧ k < H1) (h0 : 0 ≤ j) {q c : Value} (hq : vs[j.toNat]? = some q) (s : S44)
    (hc : ∀ k, c.ownBlock = some k → H ≤ k ∧ k < H') (hH : H ≤ H') : Inn H0 H1 H' vs (j + 1) (g ++ [(s, c, q)]) := by
  have hqb := hvb q (List.mem_of_getElem? hq)
  have hle := h.le
  refine ⟨?_, ?_, ?_, Nat.le_trans hle hH⟩
  · rw [flatG_snoc]
    refine List.pairwise_append.2 ⟨h.apart, ?_, ?_⟩
    · refine List.pairwise_cons.2 ⟨fun x hx k hk => ?_, List.pairwise_singleton _ _⟩
      obtain rfl := List.mem_singleton.1 hx
      intro e
      have := hc k hk
      have := hqb k e
      omega
    · intro u hu x hx k hk
      have h3 := h.lt u hu k hk
      rcases List.mem_cons.1 hx with rfl | hx
      · intro e
        have := hc k e
        omega
      · obtain rfl := List.mem_singleton.1 hx
        intro e
        have h4 := hqb k e
        rcases h.src u hu k hk with h5 | h5 | ⟨i, hi, y, hy, hyk⟩
        · omega
        · omega
        · obtain ⟨hil, ey⟩ := List.getElem?_eq_some_iff.1 hy
          obtain ⟨hjl, eq⟩ := List.getElem?_eq_some_iff.1 hq
          have h6 := List.pairwise_iff_getElem.1 hv i j.toNat hil hjl (by omega) k (by rw [ey]; exact hyk)
          rw [eq] at h6
          exact h6 e
  · intro u hu k hk
    rw [flatG_snoc] at hu
    rcases List.mem_append.1 hu with hu | hu
    · have := h.lt u hu k hk; omega
    · rcases List.mem_cons.1 hu with rfl | hu
      · exact (hc k hk).2
      · obtain rfl := List.mem_singleton.1 hu
        have := hqb k hk; omega
  · intro u hu k hk
    rw [flatG_snoc] at hu
    rcases List.mem_append.1 hu with hu | hu
    · rcases h.src u hu k hk with h5 | h5 | ⟨i, hi, y, hy, hyk⟩
      · exact .inl h5
      · exact .inr (.inl h5)
      · exact .inr (.inr ⟨i, by omega, y, hy, hyk⟩)
    · rcases List.mem_cons.1 hu with rfl | hu
      · have := hc k hk
        exact .inr (.inl (by omega))
      · obtain rfl := List.mem_singleton.1 hu
        exact .inr (.inr ⟨j.toNat, by omega, _, hq, hk⟩)
theorem Inn.grow {H0 H1 H H' : Nat} {vs : List Value} {j : Int} {g : List (S44 × Value × Value)} (h : Inn H0 H1 H vs j g) (hH : H ≤ H') : Inn H0 H1 H' vs j g :=
  ⟨h.apart, fun u hu k hk => Nat.lt_of_lt_of_le (h.lt u hu k hk) hH, h.src, Nat.le_trans h.le hH⟩

mutual
def impl_pairs.l0 : Nat → Int → List (S44) → List (List Int) → Int → Int → Option ((List (S44)))
  | 0, _, _, _, _, _ => none
  | k + 1, x0, x3, x10, x11, x12 => if x12 < x11 then (if 0 ≤ x12 then (if x12 < (x10.length : Int) then ((impl_systems.f k x0).bind fun t333 => (impl_pairs.l1 k x0 x3 (rd_L1 x10 x12) x10 x11 x12 t333 (t333.length : Int) 0)) else (none)) else (none)) else (some x3)
def impl_pairs.l1 : Nat → Int → List (S44) → List Int → List (List Int) → Int → Int → List (List Int) → Int → Int → Option ((List (S44)))
  | 0, _, _, _, _, _, _, _, _, _ => none
  | k + 1, x0, x3, x5, x10, x11, x12, x17, x18, x19 => if x19 < x18 then (if 0 ≤ x19 then (if x19 < (x17.length : Int) then ((slices_Clone_int_int.f x5).bind fun t337 => (if x3.length < 2932031007402 then (impl_pairs.l1 k x0 (x3 ++ [(⟨t337, rd_L1 x17 x19⟩ : S44)]) x5 x10 x11 x12 x17 x18 (wrap64 (x19 + 1))) else (none))) else (none)) else (none)) else (impl_pairs.l0 k x0 x3 x10 x11 (wrap64 (x12 + 1)))
end
def impl_pairs.f (k : Nat) (a0 : Int) : Option ((List (S44))) := (impl_systems.f k a0).bind fun t329 => (impl_pairs.l0 k a0 (([] : List (S44))) t329 (t329.length : Int) 0)
theorem impl_pairs.mono_l : ∀ k, (∀ y0 y1 y2 y3 y4, LeO (impl_pairs.l0 k y0 y1 y2 y3 y4) (impl_pairs.l0 (k + 1) y0 y1 y2 y3 y4)) ∧ (∀ y0 y1 y2 y3 y4 y5 y6 y7 y8, LeO (impl_pairs.l1 k y0 y1 y2 y3 y4 y5 y6 y7 y8) (impl_pairs.l1 (k + 1) y0 y1 y2 y3 y4 y5 y6 y7 y8))
  | 0 => ⟨fun _ _ _ _ _ r h => by simp [impl_pairs.l0] at h, fun _ _ _ _ _ _ _ _ _ r h => by simp [impl_pairs.l1] at h⟩
  | k + 1 => by
    obtain ⟨ih0, ih1⟩ := impl_pairs.mono_l k
    refine ⟨?_, ?_⟩
    · intro y0 y1 y2 y3 y4
      unfold impl_pairs.l0
      repeat' first
      | (with_reducible exact ih0 _ _ _ _ _)
      | (with_reducible exact ih1 _ _ _ _ _ _ _ _ _)
      | (with_reducible exact impl_systems.mono _ _)
      | (with_reducible exact LeO.refl _)
      | (with_reducible exact LeO.none _)
      | (with_reducible refine LeO.ite ?_ ?_)
      | (with_reducible refine LeO.bind ?_ (fun _ => ?_))
      | exact ih0 _ _ _ _ _
      | exact ih1 _ _ _ _ _ _ _ _ _
      | exact impl_systems.mono _ _
      | exact LeO.none _
      | refine LeO.ite ?_ ?_
      | refine LeO.bind ?_ (fun _ => ?_)
    · intro y0 y1 y2 y3 y4 y5 y6 y7 y8
      unfold impl_pairs.l1
      repeat' first
      | (with_reducible exact ih0 _ _ _ _ _)
      | (with_reducible exact ih1 _ _ _ _ _ _ _ _ _)
      | (with_reducible exact impl_systems.mono _ _)
      | (with_reducible exact LeO.refl _)
      | (with_reducible exact LeO.none _)
      | (with_reducible refine LeO.ite ?_ ?_)
      | (with_reducible refine LeO.bind ?_ (fun _ => ?_))
      | exact ih0 _ _ _ _ _
      | exact ih1 _ _ _ _ _ _ _ _ _
      | exact impl_systems.mono _ _
      | exact LeO.none _
      | refine LeO.ite ?_ ?_
      | refine LeO.bind ?_ (fun _ => ?_)
theorem impl_pairs.mono : ∀ a0 k, LeO (impl_pairs.f k a0) (impl_pairs.f (k + 1) a0) := by
  intro a0 k
  obtain ⟨ih0, ih1⟩ := impl_pairs.mono_l k
  unfold impl_pairs.f
  repeat' first
      | (with_reducible exact ih0 _ _ _ _ _)
      | (with_reducible exact ih1 _ _ _ _ _ _ _ _ _)
      | (with_reducible exact impl_systems.mono _ _)
      | (with_reducible exact LeO.refl _)
      | (with_reducible exact LeO.none _)
      | (with_reducible refine LeO.ite ?_ ?_)
      | (with_reducible refine LeO.bind ?_ (fun _ => ?_))
      | exact ih0 _ _ _ _ _
      | exact ih1 _ _ _ _ _ _ _ _ _
      | exact impl_systems.mono _ _
      | exact LeO.none _
      | refine LeO.ite ?_ ?_
      | refine LeO.bind ?_ (fun _ => ?_)
set_option maxHeartbeats 8000000 in
set_option maxRecDepth 100000 in
theorem impl_pairs.calls (k : Nat) (a0 : Int) (r : List (S44)) (w : World) (h : impl_pairs.f k a0 = some r) :
    Calls Try.prog 68 #[.int .i64 a0] w fun e w' => ∃ (v0_ : Value) (g_ : List (S44 × Value × Value)), e = .returned (v0_) ∧ g_.map Prod.fst = r ∧ ApartV (flatG g_) ∧ Kd.N (gPr w.heap.size) 44 w' w.heap.size (fun k_ => (w.heap.size ≤ k_)) v0_ g_ ∧ Below w.heap.size w w' := by
  have hu44 := Try.underlying44
  have HB := Aside0.mk (Below.refl w.heap.size w)
  have H : ((impl_systems.f k a0).bind fun t329 => (impl_pairs.l0 k a0 (([] : List (S44))) t329 (t329.length : Int) 0)) = some r := h
  clear h
  obtain ⟨y326, hy326⟩ : ∃ y_ : List (S44), y_ = (([] : List (S44))) := ⟨_, rfl⟩
  replace H : ((impl_systems.f k a0).bind fun t329 => (impl_pairs.l0 k a0 y326 t329 (t329.length : Int) 0)) = some r := by first | (rw [hy326]; with_reducible exact H) | (have H2_ := (Option.bind_some _ _).symm.trans H; rw [hy326]; with_reducible exact H2_) | (have H2_ := (Option.bind_some _ _).symm.trans H; with_reducible exact H2_) | with_reducible exact H | (rw [hy326]; exact H) | exact H
  have Ny326 := Aside0.mk hy326
  clear hy326
  replace H := Option.bind_eq_some_iff.mp H
  obtain ⟨t329, A20, H⟩ := H
  replace H : (impl_pairs.l0 k a0 y326 t329 (t329.length : Int) 0) = some r := H
  have A2 := Aside0.mk A20
  clear A20
  have H' := Aside0.mk H
  clear H
  go_enter Try.func68, Try.ntmps68
  go_wp2_with (first | ((with_reducible refine gate_dst (N := 8) rfl ?_); refine Kd.N_lit (gPr w.heap.size) _ 44 ?hg (N' := 8) ?hd (xs := ([] : List (S44 × Value × Value))) (inner := []) (ok := (fun k_ => (w.heap.size ≤ k_))) (okp := (fun k_ => (w.heap.size ≤ k_))) ?hr ?hp (fun _ hk => hk) ((show ∀ k_, w.heap.size ≤ k_ → (fun k_ => (w.heap.size ≤ k_)) k_ from fun k_ hk => (Nat.le_trans (below_size (by repeat (first | (with_reducible first | exact HB.out | apply below_alloc | apply pw_below_drewN | apply below_drew1) | exact HB.out))) hk)) _ (Nat.le_refl _)) (Below.refl _ _) (Nat.le_refl _) (by simp) ?_; (case hd => rfl); (case hg => rfl); (case hr => first | (go_simp; done) | (go_simp; rfl)); (case hp => exact (Reps.none _ _)); intro v327 w3 ho4 hb hg_ hnew_; clear hg_ hnew_; have n0_ := Aside0.mk (Kd.N_lower ho4 (below_size (by repeat (first | (with_reducible first | exact HB.out | apply below_alloc | apply pw_below_drewN | apply below_drew1) | exact HB.out)))); have n1_ := Aside0.mk (below_step (by repeat (first | (with_reducible first | exact HB.out | apply below_alloc | apply pw_below_drewN | apply below_drew1) | exact HB.out)) hb); clear HB; have HO328 := n0_; have HB := n1_; clear n0_ n1_; clear hb ho4) | ((with_reducible refine gate_callee (f := 57) rfl ?_); refine goesL_ (some 10) rfl rfl Try.func57 (by kernel_rfl) rfl #[.int .i64 a0] rfl (by (try simp only [List.map_toArray, List.map_cons, List.map_nil]); first | done | rfl | (simp only [List.length_drop, List.length_take]; rfl)) ?_; (with_reducible refine (impl_systems.calls k a0 t329 _ A2.out).mono ?_); rintro e w5 ⟨v330, rfl, ho0, hb⟩; refine ⟨_, rfl, ?_⟩; have n0_ := Aside0.mk (Kd.N_elder' (by (with_reducible repeat (first | apply Kd.N_alloc | apply Kd.N_drewN | apply Kd.N_drew)); exact HO328.out) (by first | exact Kd.S_base ho0 | exact Kd.N_base ho0) hb); have n1_ := Aside0.mk (Kd.N_lower (Kd.N_mono (ok' := fun k_ => (w.heap.size ≤ k_) ∧ some k_ ≠ (v327 : Value).ownBlock) (Kd.S_N (Kd.S_bound ho0)) (fun k_ hk_ => ⟨(Nat.le_trans (below_size (by repeat (first | (with_reducible first | exact HB.out | apply below_alloc | apply pw_below_drewN | apply below_drew1) | exact HB.out))) hk_.2.1), (Kd.fresh' (Kd.N_lt (by (with_reducible repeat (first | apply Kd.N_alloc | apply Kd.N_drewN | apply Kd.N_drew)); exact HO328.out)) k_ hk_.2.1)⟩)) (below_size (by repeat (first | (with_reducible first | exact HB.out | apply below_alloc | apply pw_below_drewN | apply below_drew1) | exact HB.out)))); have n2_ := Aside0.mk (below_step (by repeat (first | (with_reducible first | exact HB.out | apply below_alloc | apply pw_below_drewN | apply below_drew1) | exact HB.out)) hb); clear HO328; clear HB; have HO328 := n0_; have HO331 := n1_; have HB := n2_; clear n0_ n1_ n2_; (try clear hb); (try clear hb2); (try clear hk); (try clear hi); (try clear ho0); obtain ⟨Ao6, co6, eo6⟩ := Kd.N_slice HO331.out; subst eo6))
  go_loopg [3, 12] k (fun kq v3 v12 w' => ∃ (x3_1 : List (S44)) (x12_1 : Int) (g3_1 : List (S44 × Value × Value)), v12 = .int .i64 x12_1 ∧ Aside0 (impl_pairs.l0 kq a0 x3_1 t329 (t329.length : Int) x12_1 = some r) ∧ Aside0 (kq ≤ k) ∧ Aside0 (g3_1.map Prod.fst = x3_1) ∧ Aside0 (ApartV (flatG g3_1)) ∧ Aside0 (∀ u, u ∈ flatG g3_1 → ∀ k_, u.ownBlock = some k_ → k_ < w'.heap.size) ∧ Aside0 (Kd.N (gPr w.heap.size) 44 w' w.heap.size (fun k_ => (w.heap.size ≤ k_) ∧ some k_ ≠ ((.slice Ao6 t329.length co6) : Value).ownBlock) v3 g3_1) ∧ Aside0 (Kd.N (Kd.slice 3 (Kd.int .i64)) 25 w' w.heap.size (fun k_ => (w.heap.size ≤ k_) ∧ some k_ ≠ (v3 : Value).ownBlock) (.slice Ao6 t329.length co6) t329) ∧ Aside0 (Below w.heap.size w w'))
  case atStart => exact ⟨(y326), (0), [], (by first | rfl | (simp; done) | (simp [*]; done)), H', ⟨Nat.le_refl _⟩, ⟨Ny326.out.symm⟩, ⟨List.Pairwise.nil⟩, ⟨fun u hu => by simp [flatG] at hu⟩, ⟨by (with_reducible repeat (first | apply Kd.N_alloc | apply Kd.N_drewN | apply Kd.N_drew)); exact HO328.out⟩, ⟨by (with_reducible repeat (first | apply Kd.N_alloc | apply Kd.N_drewN | apply Kd.N_drew)); exact HO331.out⟩, ⟨by repeat (first | (with_reducible first | exact HB.out | apply below_alloc | apply pw_below_drewN | apply below_drew1) | exact HB.out)⟩⟩
  case round =>
    clear H'
    try clear p2
    try clear c5
    try clear c6
    obtain ⟨x3_1, x12_1, g3_1, rfl, HA, HK1, HG1, HP1, HQ1, HO_3, HO_10, HB⟩ := hrel
    cases gk with
    | zero => exact absurd HA.out (by simp [impl_pairs.l0])
    | succ k1 =>
      have H := HA.out
      clear HA
      simp only [impl_pairs.l0] at H
      by_cases c7 : x12_1 < (t329.length : Int)
      · rw [if_pos c7] at H
        have c7b0 : decide (x12_1 < (t329.length : Int)) = true := decide_eq_true c7
        clear c7
        by_cases c8 : 0 ≤ x12_1
        · rw [if_pos c8] at H
          have c8b0 : decide (0 ≤ x12_1) = true := decide_eq_true c8
          clear c8
          by_cases c9 : x12_1 < (t329.length : Int)
          · rw [if_pos c9] at H
            have c9b0 : decide (x12_1 < (t329.length : Int)) = true := decide_eq_true c9
            clear c9
            replace H := Option.bind_eq_some_iff.mp H
            obtain ⟨t333, A100, H⟩ := H
            replace H : (impl_pairs.l1 k1 a0 x3_1 (rd_L1 t329 x12_1) t329 (t329.length : Int) x12_1 t333 (t333.length : Int) 0) = some r := H
            have A10 := Aside0.mk A100
            clear A100
            have H' := Aside0.mk H
            clear H
            have p332 : 0 ≤ (x12_1 : Int) := of_decide_eq_true (by first | (with_reducible assumption) | assumption)
            have q332 : x12_1 < (t329.length : Int) := of_decide_eq_true (by first | (with_reducible assumption) | assumption)
            obtain ⟨ad332, A332_0, c332_0, e332, hx332_0, hl332_0, hi332_0⟩ := at_L1 (Kd.N_reads' HO_10.out).2.2 x12_1 p332 q332
            cases e332
            obtain ⟨ce332, hce332, hMe332, hcc332⟩ := Kd.N_get HO_10.out [] x12_1 p332 (by first | exact q332 | exact of_decide_eq_true (by first | (with_reducible assumption) | assumption) | (have e_ := (Kd.N_reads' HO_10.out).1; omega))
            obtain ⟨ua332_0, uc332_0, rfl, ul332_0, ge332_0⟩ := Kd.FK_slice_open hMe332
            have hv332_0 := hcc332 0 _ rfl
            rw [Nat.add_zero, show ((Kd.slice 3 (Kd.int .i64))).sz = 1 from rfl, Nat.mul_one] at hv332_0
            replace hv332_0 := Option.some.inj (hv332_0.symm.trans hx332_0)
            injection hv332_0 with hva_ hvn_ hvc_
            rw [hva_] at ge332_0
            rw [hvc_] at ul332_0
            have HL332_0 := Aside0.mk (show Kd.V (Kd.int .i64) 3 _ w.heap.size _ _ (rd_L1 t329 x12_1) from Kd.V_mk ul332_0 ge332_0)
            clear hva_ hvn_ hvc_ ge332_0 ul332_0
            clear hcc332 hce332
            have HR332_0 := Aside0.mk hi332_0
            have HC332_0 := Aside0.mk hl332_0
            clear hi332_0 hl332_0
            replace p332 := eq_true p332
            replace q332 := eq_true q332
            go_wp2_with (first | ((with_reducible refine gate_callee (f := 57) rfl ?_); refine goesL_ (some 17) rfl rfl Try.func57 (by kernel_rfl) rfl #[.int .i64 a0] rfl (by (try simp only [List.map_toArray, List.map_cons, List.map_nil]); first | done | rfl | (simp only [List.length_drop, List.length_take]; rfl)) ?_; (with_reducible refine (impl_systems.calls k1 a0 t333 _ A10.out).mono ?_); rintro e w11 ⟨v334, rfl, ho0, hb⟩; refine ⟨_, rfl, ?_⟩; obtain ⟨vs12, hvl, hvN, hvA, hvB⟩ := S_ghost (b := w.heap.size) (Kd.S_bound ho0) (below_size (by repeat (first | (with_reducible first | exact HB.out | apply below_alloc | apply pw_below_drewN | apply below_drew1) | exact HB.out))); have HVL := Aside0.mk hvl; have HVA := Aside0.mk hvA; have HIN0 := Aside0.mk (show ∃ H0_ H1_ : Nat, (∀ u, u ∈ vs12 → ∀ k_, u.ownBlock = some k_ → H0_ ≤ k_ ∧ k_ < H1_) ∧ Inn H0_ H1_ w11.heap.size vs12 0 g3_1 from ⟨_, _, hvB, Inn.start vs12 HP1.out HQ1.out hb.size (Nat.le_refl _)⟩); clear hvl hvA hvB; have n0_ := Aside0.mk (Kd.N_elder' (by (with_reducible repeat (first | apply Kd.N_alloc | apply Kd.N_drewN | apply Kd.N_drew)); exact HO_3.out) (by first | exact Kd.S_base ho0 | exact Kd.N_base ho0) hb); have n1_ := Aside0.mk (Kd.N_elder' (by (with_reducible repeat (first | apply Kd.N_alloc | apply Kd.N_drewN | apply Kd.N_drew)); exact HO_10.out) (by first | exact Kd.S_base ho0 | exact Kd.N_base ho0) hb); have n2_ := Aside0.mk (Kd.V_elder' (by (with_reducible repeat (first | apply Kd.V_alloc | apply Kd.V_drewN | apply Kd.V_drew)); exact HL332_0.out) (by first | exact Kd.S_base ho0 | exact Kd.N_base ho0) hb); have n3_ := Aside0.mk (Kd.N_lower (Kd.N_mono (ok' := fun k_ => (w.heap.size ≤ k_) ∧ some k_ ≠ (u3 : Value).ownBlock ∧ some k_ ≠ (.slice (some ad332) t329.length co6 : Value).ownBlock) hvN (fun k_ hk_ => ⟨(Nat.le_trans (below_size (by repeat (first | (with_reducible first | exact HB.out | apply below_alloc | apply pw_below_drewN | apply below_drew1) | exact HB.out))) hk_.2.1), (Kd.fresh' (Kd.N_lt (by (with_reducible repeat (first | apply Kd.N_alloc | apply Kd.N_drewN | apply Kd.N_drew)); exact HO_3.out)) k_ hk_.2.1), (Kd.fresh' (Kd.N_lt (by (with_reducible repeat (first | apply Kd.N_alloc | apply Kd.N_drewN | apply Kd.N_drew)); exact HO_10.out)) k_ hk_.2.1)⟩)) (below_size (by repeat (first | (with_reducible first | exact HB.out | apply below_alloc | apply pw_below_drewN | apply below_drew1) | exact HB.out)))); have n4_ := Aside0.mk (Kd.C_below (by repeat (first | (with_reducible exact HR332_0.out) | (with_reducible refine Kd.C_alloc ?_ _) | (with_reducible refine Kd.C_drewN ?_ _) | (with_reducible refine Kd.C_drew ?_) | exact HR332_0.out)) hb); have n5_ := Aside0.mk (below_step (by repeat (first | (with_reducible first | exact HB.out | apply below_alloc | apply pw_below_drewN | apply below_drew1) | exact HB.out)) hb); clear HO_3; clear HO_10; clear HL332_0; clear HR332_0; clear HB; have HO_3 := n0_; have HO_10 := n1_; have HL332_0 := n2_; have HO335 := n3_; have HR332_0 := n4_; have HB := n5_; clear n0_ n1_ n2_ n3_ n4_ n5_ hvN; (try clear hb); (try clear hb2); (try clear hk); (try clear hi); (try clear ho0); obtain ⟨Ao12, co12, eo12⟩ := Kd.N_slice (N_sl HVL.out HO335.out); subst eo12))
            go_loopg [3, 19] k1 (fun kq v3 v19 w' => ∃ (x3_2 : List (S44)) (x19_2 : Int) (g3_2 : List (S44 × Value × Value)), v19 = .int .i64 x19_2 ∧ Aside0 (impl_pairs.l1 kq a0 x3_2 (rd_L1 t329 x12_1) t329 (t329.length : Int) x12_1 t333 (t333.length : Int) x19_2 = some r) ∧ Aside0 (kq ≤ k1) ∧ Aside0 (g3_2.map Prod.fst = x3_2) ∧ Aside0 (∃ H0_ H1_ : Nat, (∀ u, u ∈ vs12 → ∀ k_, u.ownBlock = some k_ → H0_ ≤ k_ ∧ k_ < H1_) ∧ Inn H0_ H1_ w'.heap.size vs12 (x19_2) (g3_2)) ∧ Aside0 (Kd.N (gPr w.heap.size) 44 w' w.heap.size (fun k_ => (w.heap.size ≤ k_) ∧ some k_ ≠ ((.slice (some ad332) t329.length co6) : Value).ownBlock ∧ some k_ ≠ ((.slice Ao12 t333.length co12) : Value).ownBlock) v3 g3_2) ∧ Aside0 (Kd.V (Kd.int .i64) 3 w' w.heap.size (fun k_ => (w.heap.size ≤ k_) ∧ some k_ ≠ (v3 : Value).ownBlock ∧ some k_ ≠ ((.slice (some ad332) t329.length co6) : Value).ownBlock ∧ some k_ ≠ ((.slice Ao12 t333.length co12) : Value).ownBlock) (.slice A332_0 (rd_L1 t329 x12_1).length c332_0) (rd_L1 t329 x12_1)) ∧ Aside0 (Kd.N (Kd.slice 3 (Kd.int .i64)) 25 w' w.heap.size (fun k_ => (w.heap.size ≤ k_) ∧ some k_ ≠ (v3 : Value).ownBlock ∧ some k_ ≠ ((.slice Ao12 t333.length co12) : Value).ownBlock) (.slice (some ad332) t329.length co6) t329) ∧ Aside0 (Kd.N (gSl w.heap.size) 25 w' w.heap.size (fun k_ => (w.heap.size ≤ k_) ∧ some k_ ≠ (v3 : Value).ownBlock ∧ some k_ ≠ ((.slice (some ad332) t329.length co6) : Value).ownBlock) (.slice Ao12 t333.length co12) (t333.zip vs12)) ∧ Aside0 (Below w.heap.size w w'))
            case atStart => exact ⟨(x3_1), (0), g3_1, (by first | rfl | (simp; done) | (simp [*]; done)), H', ⟨Nat.le_refl _⟩, HG1, HIN0, ⟨by (with_reducible repeat (first | apply Kd.N_alloc | apply Kd.N_drewN | apply Kd.N_drew)); exact Kd.N_mono HO_3.out (fun _ hk => ⟨hk.1.1, ⟨hk.1.2, hk.2⟩⟩)⟩, ⟨by (with_reducible repeat (first | apply Kd.V_alloc | apply Kd.V_drewN | apply Kd.V_drew)); exact Kd.V_mono HL332_0.out (fun _ hk => ⟨hk.1.1.1, ⟨hk.1.1.2, ⟨hk.1.2, hk.2⟩⟩⟩)⟩, ⟨by (with_reducible repeat (first | apply Kd.N_alloc | apply Kd.N_drewN | apply Kd.N_drew)); exact Kd.N_mono HO_10.out (fun _ hk => ⟨hk.1.1, ⟨hk.1.2, hk.2⟩⟩)⟩, ⟨by (with_reducible repeat (first | apply Kd.N_alloc | apply Kd.N_drewN | apply Kd.N_drew)); exact HO335.out⟩, ⟨by repeat (first | (with_reducible first | exact HB.out | apply below_alloc | apply pw_below_drewN | apply below_drew1) | exact HB.out)⟩⟩
            case round =>
              clear H'
              try clear p2
              try clear c3
              try clear p3
              try clear q3
              try clear hx3
              try clear c5
              try clear c6
              try clear c7
              try clear c7b0
              try clear c8
              try clear c8b0
              try clear c9
              try clear c9b0
              try clear hx332_0
              try clear p2
              try clear p332
              try clear q332
              clear HIN0
              obtain ⟨x3_2, x19_2, g3_2, rfl, HA, HK2, HG2, HIN, HO_3, HO_5, HO_10, HO_17, HB⟩ := hrel
              cases gk with
              | zero => exact absurd HA.out (by simp [impl_pairs.l1])
              | succ k2 =>
                have H := HA.out
                clear HA
                simp only [impl_pairs.l1] at H
                by_cases c13 : x19_2 < (t333.length : Int)
                · rw [if_pos c13] at H
                  have c13b0 : decide (x19_2 < (t333.length : Int)) = true := decide_eq_true c13
                  clear c13
                  by_cases c14 : 0 ≤ x19_2
                  · rw [if_pos c14] at H
                    have c14b0 : decide (0 ≤ x19_2) = true := decide_eq_true c14
                    clear c14
                    by_cases c15 : x19_2 < (t333.length : Int)
                    · rw [if_pos c15] at H
                      have c15b0 : decide (x19_2 < (t333.length : Int)) = true := decide_eq_true c15
                      clear c15
                      replace H := Option.bind_eq_some_iff.mp H
                      obtain ⟨t337, A160, H⟩ := H
                      replace H : (if x3_2.length < 2932031007402 then (impl_pairs.l1 k2 a0 (x3_2 ++ [(⟨t337, rd_L1 t333 x19_2⟩ : S44)]) (rd_L1 t329 x12_1) t329 (t329.length : Int) x12_1 t333 (t333.length : Int) (wrap64 (x19_2 + 1))) else (none)) = some r := H
                      have A16 := Aside0.mk A160
                      clear A160
                      by_cases c17 : x3_2.length < 2932031007402
                      · rw [if_pos c17] at H
                        have LMc17 := Aside0.mk c17
                        clear c17
                        obtain ⟨y340, hy340⟩ : ∃ y_ : List (S44), y_ = (x3_2 ++ [(⟨t337, rd_L1 t333 x19_2⟩ : S44)]) := ⟨_, rfl⟩
                        replace H : (impl_pairs.l1 k2 a0 y340 (rd_L1 t329 x12_1) t329 (t329.length : Int) x12_1 t333 (t333.length : Int) (wrap64 (x19_2 + 1))) = some r := by first | (rw [hy340]; with_reducible exact H) | (have H2_ := (Option.bind_some _ _).symm.trans H; rw [hy340]; with_reducible exact H2_) | (have H2_ := (Option.bind_some _ _).symm.trans H; with_reducible exact H2_) | with_reducible exact H | (rw [hy340]; exact H) | exact H
                        have Ny340 := Aside0.mk hy340
                        clear hy340
                        have H' := Aside0.mk H
                        clear H
                        have p336 : 0 ≤ (x19_2 : Int) := of_decide_eq_true (by first | (with_reducible assumption) | assumption)
                        have q336 : x19_2 < (t333.length : Int) := of_decide_eq_true (by first | (with_reducible assumption) | assumption)
                        obtain ⟨ad336, A336_0, c336_0, e336, hx336_0, hl336_0, hi336_0⟩ := at_L1 (Kd.N_reads' (N_sl HVL.out HO_17.out)).2.2 x19_2 p336 q336
                        cases e336
                        obtain ⟨ce336, hce336, hMe336, hcc336⟩ := Kd.N_get (N_sl HVL.out HO_17.out) [] x19_2 p336 (by first | exact q336 | exact of_decide_eq_true (by first | (with_reducible assumption) | assumption) | (have e_ := (Kd.N_reads' (N_sl HVL.out HO_17.out)).1; omega))
                        obtain ⟨ua336_0, uc336_0, rfl, ul336_0, ge336_0⟩ := Kd.FK_slice_open hMe336
                        have hv336_0 := hcc336 0 _ rfl
                        rw [Nat.add_zero, show ((Kd.slice 3 (Kd.int .i64))).sz = 1 from rfl, Nat.mul_one] at hv336_0
                        replace hv336_0 := Option.some.inj (hv336_0.symm.trans hx336_0)
                        injection hv336_0 with hva_ hvn_ hvc_
                        rw [hva_] at ge336_0
                        rw [hvc_] at ul336_0
                        have HL336_0 := Aside0.mk (show Kd.V (Kd.int .i64) 3 _ w.heap.size _ _ (rd_L1 t333 x19_2) from Kd.V_mk ul336_0 ge336_0)
                        obtain ⟨hvq336, hFq336⟩ := gSl_at HVL.out HO_17.out x19_2 p336 q336 hx336_0
                        have HVQ := Aside0.mk hvq336
                        have HW336 := Aside0.mk hFq336
                        clear hvq336 hFq336
                        clear hva_ hvn_ hvc_ ge336_0 ul336_0
                        clear hcc336 hce336
                        have HR336_0 := Aside0.mk hi336_0
                        have HC336_0 := Aside0.mk hl336_0
                        clear hi336_0 hl336_0
                        replace p336 := eq_true p336
                        replace q336 := eq_true q336
                        go_wp2_with (first | ((with_reducible refine gate_callee (f := 92) rfl ?_); refine goesL_ (some 25) rfl rfl Try.func92 (by kernel_rfl) rfl #[.slice A332_0 (rd_L1 t329 x12_1).length c332_0] rfl (by (try simp only [List.map_toArray, List.map_cons, List.map_nil]); first | done | rfl | (simp only [List.length_drop, List.length_take]; rfl)) ?_; (with_reducible refine (slices_Clone_int_int.calls _ _ (rd_L1 t329 x12_1) t337 _ ?side1 ?side2 A16.out).mono ?_); (case side1 => repeat (first | exact (Kd.V_reads' HO_5.out).2.2 | (with_reducible refine Kd.C_alloc ?_ _) | (with_reducible refine Kd.C_drewN ?_ _) | (with_reducible refine Kd.C_drew ?_))); (case side2 => exact (Kd.V_reads' HO_5.out).2.1); rintro e w18 ⟨v338, rfl, ho0, hb⟩; refine ⟨_, rfl, ?_⟩; have n8_ := Aside0.mk (FK_elder HW336.out (Kd.R_base ho0) hb); have n9_ := Aside0.mk (show ∃ H0_ H1_ : Nat, (∀ u, u ∈ vs12 → ∀ k_, u.ownBlock = some k_ → H0_ ≤ k_ ∧ k_ < H1_) ∧ Inn H0_ H1_ w18.heap.size vs12 (x19_2 + 1) (g3_2 ++ [((⟨t337, rd_L1 t333 x19_2⟩ : S44), v338, (.slice A336_0 (rd_L1 t333 x19_2).length c336_0 : Value))]) from by obtain ⟨H0_, H1_, hb1_, hi_⟩ := HIN.out; exact ⟨H0_, H1_, hb1_, hi_.push HVA.out hb1_ (of_decide_eq_true c14b0) HVQ.out _ (fun k_ h_ => ⟨Kd.R_base ho0 k_ h_, Kd.R_lt ho0 k_ h_⟩) hb.size⟩); clear HW336 HIN HVQ; have HW336 := n8_; have HIN := n9_; clear n8_ n9_; have n0_ := Aside0.mk (Kd.N_elder' (by (with_reducible repeat (first | apply Kd.N_alloc | apply Kd.N_drewN | apply Kd.N_drew)); exact HO_3.out) (Kd.R_base ho0) hb); have n1_ := Aside0.mk (Kd.V_elder' (by (with_reducible repeat (first | apply Kd.V_alloc | apply Kd.V_drewN | apply Kd.V_drew)); exact HO_5.out) (Kd.R_base ho0) hb); have n2_ := Aside0.mk (Kd.N_elder' (by (with_reducible repeat (first | apply Kd.N_alloc | apply Kd.N_drewN | apply Kd.N_drew)); exact HO_10.out) (Kd.R_base ho0) hb); have n3_ := Aside0.mk (Kd.N_elder' (by (with_reducible repeat (first | apply Kd.N_alloc | apply Kd.N_drewN | apply Kd.N_drew)); exact HO_17.out) (Kd.R_base ho0) hb); have n4_ := Aside0.mk (Kd.V_elder' (by (with_reducible repeat (first | apply Kd.V_alloc | apply Kd.V_drewN | apply Kd.V_drew)); exact HL336_0.out) (Kd.R_base ho0) hb); have n5_ := Aside0.mk (Kd.R_lower (Kd.R_newM (M := fun k_ => (w.heap.size ≤ k_)) ho0 (below_size (by repeat (first | (with_reducible first | exact HB.out | apply below_alloc | apply pw_below_drewN | apply below_drew1) | exact HB.out))) (fun k_ h_ => h_)) (below_size (by repeat (first | (with_reducible first | exact HB.out | apply below_alloc | apply pw_below_drewN | apply below_drew1) | exact HB.out)))); have n6_ := Aside0.mk (Kd.C_below (by repeat (first | (with_reducible exact HR336_0.out) | (with_reducible refine Kd.C_alloc ?_ _) | (with_reducible refine Kd.C_drewN ?_ _) | (with_reducible refine Kd.C_drew ?_) | exact HR336_0.out)) hb); have n7_ := Aside0.mk (below_step (by repeat (first | (with_reducible first | exact HB.out | apply below_alloc | apply pw_below_drewN | apply below_drew1) | exact HB.out)) hb); clear HO_3; clear HO_5; clear HO_10; clear HO_17; clear HL336_0; clear HR336_0; clear HB; have HO_3 := n0_; have HO_5 := n1_; have HO_10 := n2_; have HO_17 := n3_; have HL336_0 := n4_; have HO339 := n5_; have HR336_0 := n6_; have HB := n7_; clear n0_ n1_ n2_ n3_ n4_ n5_ n6_ n7_; (try clear hb); (try clear hb2); (try clear hk); (try clear hi); (try clear ho0); obtain ⟨Ao19, co19, eo19⟩ := Kd.R_slice HO339.out; subst eo19) | ((with_reducible refine gate_builtin (b := .append) (xs := #[.tmp 23, .tmp 28]) rfl ?_); at_builtin; refine Kd.N_append (gPr w.heap.size) (w0 := w) w.heap.size rfl (.tmp 23) (.tmp 28) 49 44 (.agg #[(.slice none 0 0), (.slice none 0 0)]) 48 rfl Try.underlying49 info44 rfl (show (0 : Nat) < 2 by decide) (by omega) u3 g3_2 ((⟨t337, rd_L1 t333 x19_2⟩ : S44), (.slice Ao19 t337.length co19 : Value), (.slice A336_0 (rd_L1 t333 x19_2).length c336_0 : Value)) [.slice Ao19 t337.length co19, .slice A336_0 (rd_L1 t333 x19_2).length c336_0] (fun k_ => (w.heap.size ≤ k_) ∧ some k_ ≠ (.slice (some ad332) t329.length co6 : Value).ownBlock ∧ some k_ ≠ (.slice (some ad336) t333.length co12 : Value).ownBlock) (fun k_ => ((fun k_ => (w.heap.size ≤ k_) ∧ some k_ ≠ (.slice (some ad332) t329.length co6 : Value).ownBlock ∧ some k_ ≠ (.slice (some ad336) t333.length co12 : Value).ownBlock)) k_ ∧ some k_ ≠ (u3 : Value).ownBlock) rfl rfl ?aP (fun _ hk => hk) ?aF ?aO ?aB ?aS ?aL ?_; (case aP => exact (gPr_mkF (Kd.R_mono (ok' := (fun k_ => ((fun k_ => (w.heap.size ≤ k_) ∧ some k_ ≠ (.slice (some ad332) t329.length co6 : Value).ownBlock ∧ some k_ ≠ (.slice (some ad336) t333.length co12 : Value).ownBlock)) k_ ∧ some k_ ≠ (u3 : Value).ownBlock)) (Kd.R_apart' (Kd.R_apart' (Kd.R_apart' (HO339.out) (Kd.N_typed HO_10.out) (by decide)) (Kd.N_typed HO_17.out) (by decide)) (Kd.N_typed HO_3.out) (by decide)) (fun k_ hk => ⟨⟨hk.1.1.1.1, ⟨hk.1.1.2, hk.1.2⟩⟩, hk.2⟩)) (Kd.FK_mono HW336.out (fun k_ hk => ⟨⟨hk.1.1.1, ⟨hk.1.1.2.2, hk.1.2⟩⟩, hk.1.1.2.1⟩)))); (case aB => exact (by repeat (first | (with_reducible first | exact HB.out | apply below_alloc | apply pw_below_drewN | apply below_drew1) | exact HB.out))); (case aF => exact (fun k_ hk => ⟨(Nat.le_trans (below_size (by repeat (first | (with_reducible first | exact HB.out | apply below_alloc | apply pw_below_drewN | apply below_drew1) | exact HB.out))) hk), Kd.fresh' (Kd.N_lt (by (with_reducible repeat (first | apply Kd.N_alloc | apply Kd.N_drewN | apply Kd.N_drew)); exact HO_10.out)) k_ hk, Kd.fresh' (Kd.N_lt (by (with_reducible repeat (first | apply Kd.N_alloc | apply Kd.N_drewN | apply Kd.N_drew)); exact HO_17.out)) k_ hk⟩)); (case aO => exact (by (with_reducible repeat (first | apply Kd.N_alloc | apply Kd.N_drewN | apply Kd.N_drew)); exact Kd.N_mono HO_3.out (fun _ hk => ⟨hk.1.1, ⟨hk.1.2.1, hk.1.2.2⟩⟩))); (case aS => exact (below_size (by repeat (first | (with_reducible first | exact HB.out | apply below_alloc | apply pw_below_drewN | apply below_drew1) | exact HB.out)))); (case aL => have := LMc17.out; have e_ := congrArg List.length HG2.out; rw [List.length_map] at e_; omega); intro v341 w20 ho hb hg hat; have n9_ := Aside0.mk (show ∃ H0_ H1_ : Nat, (∀ u, u ∈ vs12 → ∀ k_, u.ownBlock = some k_ → H0_ ≤ k_ ∧ k_ < H1_) ∧ Inn H0_ H1_ w20.heap.size vs12 (x19_2 + 1) (g3_2 ++ [((⟨t337, rd_L1 t333 x19_2⟩ : S44), (.slice Ao19 t337.length co19 : Value), (.slice A336_0 (rd_L1 t333 x19_2).length c336_0 : Value))]) from by obtain ⟨H0_, H1_, hb1_, hi_⟩ := HIN.out; exact ⟨H0_, H1_, hb1_, hi_.grow hg.size⟩); clear HIN HW336; have HIN := n9_; clear n9_; have n0_ := Aside0.mk (Kd.V_afterv (ok := (fun k_ => (w.heap.size ≤ k_) ∧ some k_ ≠ (.slice (some ad332) t329.length co6 : Value).ownBlock ∧ some k_ ≠ (.slice (some ad336) t333.length co12 : Value).ownBlock ∧ some k_ ≠ (.slice Ao19 t337.length co19 : Value).ownBlock)) (by (with_reducible repeat (first | apply Kd.V_alloc | apply Kd.V_drewN | apply Kd.V_drew)); exact Kd.V_mono HO_5.out (fun _ hk => ⟨⟨hk.1.1, ⟨hk.1.2.2.1, ⟨hk.1.2.2.2, hk.2⟩⟩⟩, hk.1.2.1⟩)) hg hat); have n1_ := Aside0.mk (Kd.N_afterv (ok := (fun k_ => (w.heap.size ≤ k_) ∧ some k_ ≠ (.slice (some ad336) t333.length co12 : Value).ownBlock ∧ some k_ ≠ (.slice Ao19 t337.length co19 : Value).ownBlock)) (by (with_reducible repeat (first | apply Kd.N_alloc | apply Kd.N_drewN | apply Kd.N_drew)); exact Kd.N_mono HO_10.out (fun _ hk => ⟨⟨hk.1.1, ⟨hk.1.2.2, hk.2⟩⟩, hk.1.2.1⟩)) hg hat); have n2_ := Aside0.mk (Kd.N_afterv (ok := (fun k_ => (w.heap.size ≤ k_) ∧ some k_ ≠ (.slice (some ad332) t329.length co6 : Value).ownBlock ∧ some k_ ≠ (.slice Ao19 t337.length co19 : Value).ownBlock)) (by (with_reducible repeat (first | apply Kd.N_alloc | apply Kd.N_drewN | apply Kd.N_drew)); exact Kd.N_mono HO_17.out (fun _ hk => ⟨⟨hk.1.1, ⟨hk.1.2.2, hk.2⟩⟩, hk.1.2.1⟩)) hg hat); have n3_ := Aside0.mk (Kd.V_afterv (ok := (fun k_ => (w.heap.size ≤ k_) ∧ some k_ ≠ (.slice (some ad332) t329.length co6 : Value).ownBlock ∧ some k_ ≠ (.slice (some ad336) t333.length co12 : Value).ownBlock ∧ some k_ ≠ (.slice Ao19 t337.length co19 : Value).ownBlock)) (by (with_reducible repeat (first | apply Kd.V_alloc | apply Kd.V_drewN | apply Kd.V_drew)); exact Kd.V_mono HL336_0.out (fun _ hk => ⟨⟨hk.1.1.1, ⟨hk.1.1.2.2, ⟨hk.1.2, hk.2⟩⟩⟩, hk.1.1.2.1⟩)) hg hat); have n4_ := Aside0.mk (hb); have n5_ := Aside0.mk (ho); clear HO_5; clear HO_10; clear HO_17; clear HL336_0; clear HB; clear HO_3; clear HO339; have HO_5 := n0_; have HO_10 := n1_; have HO_17 := n2_; have HL336_0 := n3_; have HB := n4_; have HO342 := n5_; clear n0_ n1_ n2_ n3_ n4_ n5_; clear ho hb hg hat))
                        go_roundg k2
                        case measure => have := HK1.out; have := HK2.out; omega
                        case rel => exact ⟨(y340), (wrap64 (x19_2 + 1)), g3_2 ++ [((⟨t337, rd_L1 t333 x19_2⟩ : S44), (.slice Ao19 t337.length co19 : Value), (.slice A336_0 (rd_L1 t333 x19_2).length c336_0 : Value))], (by first | rfl | (simp; done) | (simp [*]; done)), H', ⟨by have := HK1.out; have := HK2.out; omega⟩, ⟨by rw [Ny340.out, List.map_append, HG2.out]; rfl⟩, ⟨by (have e_ : wrap64 (x19_2 + 1) = x19_2 + 1 := by (have h1 := of_decide_eq_true c14b0; have h2 := of_decide_eq_true c13b0; have h3 := N_maxLen (N_sl HVL.out HO_17.out); unfold maxLen at h3; unfold wrap64; omega)); (rw [e_]; exact HIN.out)⟩, ⟨by (with_reducible repeat (first | apply Kd.N_alloc | apply Kd.N_drewN | apply Kd.N_drew)); exact HO342.out⟩, ⟨by (with_reducible repeat (first | apply Kd.V_alloc | apply Kd.V_drewN | apply Kd.V_drew)); exact Kd.V_mono HO_5.out (fun _ hk => ⟨hk.1.1, ⟨hk.2, ⟨hk.1.2.1, hk.1.2.2.1⟩⟩⟩)⟩, ⟨by (with_reducible repeat (first | apply Kd.N_alloc | apply Kd.N_drewN | apply Kd.N_drew)); exact Kd.N_mono HO_10.out (fun _ hk => ⟨hk.1.1, ⟨hk.2, hk.1.2.1⟩⟩)⟩, ⟨by (with_reducible repeat (first | apply Kd.N_alloc | apply Kd.N_drewN | apply Kd.N_drew)); exact Kd.N_mono HO_17.out (fun _ hk => ⟨hk.1.1, ⟨hk.2, hk.1.2.1⟩⟩)⟩, ⟨by repeat (first | (with_reducible first | exact HB.out | apply below_alloc | apply pw_below_drewN | apply below_drew1) | exact HB.out)⟩⟩
                      · rw [if_neg c17] at H
                        exact absurd H (by simp)
                    · rw [if_neg c15] at H
                      exact absurd H (by simp)
                  · rw [if_neg c14] at H
                    exact absurd H (by simp)
                · rw [if_neg c13] at H
                  have c13b0 : decide (x19_2 < (t333.length : Int)) = false := decide_eq_false c13
                  clear c13
                  have H' := Aside0.mk H
                  clear H
                  go_wp2
                  go_roundg k2
                  case measure => have := HK1.out; have := HK2.out; omega
                  case rel => exact ⟨(x3_2), (wrap64 (x12_1 + 1)), g3_2, (by first | rfl | (simp; done) | (simp [*]; done)), H', ⟨by have := HK1.out; have := HK2.out; omega⟩, HG2, ⟨by obtain ⟨_, _, _, h_⟩ := HIN.out; exact h_.apart⟩, ⟨by obtain ⟨_, _, _, h_⟩ := HIN.out; exact h_.lt⟩, ⟨by (with_reducible repeat (first | apply Kd.N_alloc | apply Kd.N_drewN | apply Kd.N_drew)); exact Kd.N_mono HO_3.out (fun _ hk => ⟨hk.1, hk.2.1⟩)⟩, ⟨by (with_reducible repeat (first | apply Kd.N_alloc | apply Kd.N_drewN | apply Kd.N_drew)); exact Kd.N_mono HO_10.out (fun _ hk => ⟨hk.1, hk.2.1⟩)⟩, ⟨by repeat (first | (with_reducible first | exact HB.out | apply below_alloc | apply pw_below_drewN | apply below_drew1) | exact HB.out)⟩⟩
          · rw [if_neg c9] at H
            exact absurd H (by simp)
        · rw [if_neg c8] at H
          exact absurd H (by simp)
      · rw [if_neg c7] at H
        have c7b0 : decide (x12_1 < (t329.length : Int)) = false := decide_eq_false c7
        clear c7
        obtain rfl := Option.some.inj H
        go_wp2
        go_ret
        exact ⟨_, by first | rfl | (simp [errW_none, errW_some] <;> rfl) | (simp [*, errW_none, errW_some] <;> rfl), g3_1, HG1.out, HP1.out, by (with_reducible repeat (first | apply Kd.N_alloc | apply Kd.N_drewN | apply Kd.N_drew)); exact Kd.N_mono HO_3.out (fun _ hk => hk.1), by repeat (first | (with_reducible first | exact HB.out | apply below_alloc | apply pw_below_drewN | apply below_drew1) | exact HB.out)⟩

/-! ### impl_Meander_80: function 80 (by hand) -/


/-! ### impl_Meander_95: function 95 (by hand) -/


/-! ### bits_Mul32: function 122 -/
def bits_Mul32.f (a0 : Int) (a1 : Int) : Option (Int × Int) := some (((IntKind.u64.wrap ((IntKind.u64.wrap (a0)) * (IntKind.u64.wrap (a1)))) / 4294967296) % 4294967296, (IntKind.u64.wrap ((IntKind.u64.wrap (a0)) * (IntKind.u64.wrap (a1)))) % 4294967296)
set_option maxHeartbeats 8000000 in
set_option maxRecDepth 100000 in
theorem bits_Mul32.calls (a0 : Int) (a1 : Int) (r1 : Int) (r2 : Int) (w : World) (h : bits_Mul32.f a0 a1 = some (r1, r2)) :
    Calls Try.prog 122 #[.int .u32 a0, .int .u32 a1] w fun e w' => e = .returned (.tuple #[.int .u32 r1, .int .u32 r2]) ∧ Drawn0 w w' := by
  have H : (some (((IntKind.u64.wrap ((IntKind.u64.wrap (a0)) * (IntKind.u64.wrap (a1)))) / 4294967296) % 4294967296, (IntKind.u64.wrap ((IntKind.u64.wrap (a0)) * (IntKind.u64.wrap (a1)))) % 4294967296)) = some (r1, r2) := h
  clear h
  simp only [Option.some.injEq, Prod.mk.injEq] at H
  obtain ⟨rfl, rfl⟩ := H
  go_enter Try.func122, Try.ntmps122
  go_wp2
  go_ret2
  exact ⟨by first | rfl | (simp; done) | (simp [*]; done), by repeat (first | exact Drawn0.refl _ | apply Drawn0.step)⟩

/-! ### bits_Mul64: function 123 -/
def bits_Mul64.f (a0 : Int) (a1 : Int) : Option (Int × Int) := some (IntKind.u64.wrap ((IntKind.u64.wrap ((IntKind.u64.wrap ((a0 / 4294967296) * (a1 / 4294967296))) + ((IntKind.u64.wrap ((IntKind.u64.wrap ((a0 / 4294967296) * (Go.bits .and .u64 a1 4294967295))) + ((IntKind.u64.wrap ((Go.bits .and .u64 a0 4294967295) * (Go.bits .and .u64 a1 4294967295))) / 4294967296))) / 4294967296))) + ((IntKind.u64.wrap ((Go.bits .and .u64 (IntKind.u64.wrap ((IntKind.u64.wrap ((a0 / 4294967296) * (Go.bits .and .u64 a1 4294967295))) + ((IntKind.u64.wrap ((Go.bits .and .u64 a0 4294967295) * (Go.bits .and .u64 a1 4294967295))) / 4294967296))) 4294967295) + (IntKind.u64.wrap ((Go.bits .and .u64 a0 4294967295) * (a1 / 4294967296))))) / 4294967296)), IntKind.u64.wrap (a0 * a1))
set_option maxHeartbeats 8000000 in
set_option maxRecDepth 100000 in
theorem bits_Mul64.calls (a0 : Int) (a1 : Int) (r1 : Int) (r2 : Int) (w : World) (h : bits_Mul64.f a0 a1 = some (r1, r2)) :
    Calls Try.prog 123 #[.int .u64 a0, .int .u64 a1] w fun e w' => e = .returned (.tuple #[.int .u64 r1, .int .u64 r2]) ∧ Drawn0 w w' := by
  have H : (some (IntKind.u64.wrap ((IntKind.u64.wrap ((IntKind.u64.wrap ((a0 / 4294967296) * (a1 / 4294967296))) + ((IntKind.u64.wrap ((IntKind.u64.wrap ((a0 / 4294967296) * (Go.bits .and .u64 a1 4294967295))) + ((IntKind.u64.wrap ((Go.bits .and .u64 a0 4294967295) * (Go.bits .and .u64 a1 4294967295))) / 4294967296))) / 4294967296))) + ((IntKind.u64.wrap ((Go.bits .and .u64 (IntKind.u64.wrap ((IntKind.u64.wrap ((a0 / 4294967296) * (Go.bits .and .u64 a1 4294967295))) + ((IntKind.u64.wrap ((Go.bits .and .u64 a0 4294967295) * (Go.bits .and .u64 a1 4294967295))) / 4294967296))) 4294967295) + (IntKind.u64.wrap ((Go.bits .and .u64 a0 4294967295) * (a1 / 4294967296))))) / 4294967296)), IntKind.u64.wrap (a0 * a1))) = some (r1, r2) := h
  clear h
  simp only [Option.some.injEq, Prod.mk.injEq] at H
  obtain ⟨rfl, rfl⟩ := H
  go_enter Try.func123, Try.ntmps123
  go_wp2
  go_ret2
  exact ⟨by first | rfl | (simp; done) | (simp [*]; done), by repeat (first | exact Drawn0.refl _ | apply Drawn0.step)⟩

/-! ### bits_Mul: function 116 -/
def bits_Mul.f (a0 : Int) (a1 : Int) : Option (Int × Int) := (bits_Mul64.f a0 a1).bind fun bt274 => (some (bt274.1, bt274.2))
set_option maxHeartbeats 8000000 in
set_option maxRecDepth 100000 in
theorem bits_Mul.calls (a0 : Int) (a1 : Int) (r1 : Int) (r2 : Int) (w : World) (h : bits_Mul.f a0 a1 = some (r1, r2)) :
    Calls Try.prog 116 #[.int .u64 a0, .int .u64 a1] w fun e w' => e = .returned (.tuple #[.int .u64 r1, .int .u64 r2]) ∧ Drawn0 w w' := by
  have H : ((bits_Mul64.f a0 a1).bind fun bt274 => (some (bt274.1, bt274.2))) = some (r1, r2) := h
  clear h
  replace H := Option.bind_eq_some_iff.mp H
  obtain ⟨⟨t274, t275⟩, A30, H⟩ := H
  replace H : (some (t274, t275)) = some (r1, r2) := H
  have A3 := Aside0.mk A30
  clear A30
  simp only [Option.some.injEq, Prod.mk.injEq] at H
  obtain ⟨rfl, rfl⟩ := H
  go_enter Try.func116, Try.ntmps116
  go_wp2_with (first | ((with_reducible refine gate_callee (f := 123) rfl ?_); refine goesL_ (some 25) rfl rfl Try.func123 (by kernel_rfl) rfl #[.int .u64 a0, .int .u64 a1] rfl (by (try simp only [List.map_toArray, List.map_cons, List.map_nil]); first | done | rfl | (simp only [List.length_drop, List.length_take]; rfl)) ?_; (with_reducible refine (bits_Mul64.calls a0 a1 t274 t275 _ A3.out).mono ?_); rintro e w' ⟨rfl, ⟨nd, rfl⟩⟩; refine ⟨_, rfl, ?_⟩))
  go_ret2
  exact ⟨by first | rfl | (simp; done) | (simp [*]; done), by repeat (first | exact Drawn0.refl _ | apply Drawn0.step)⟩

/-! ### slices_Repeat_int_int: function 103 (by hand) -/
/-- slices.Repeat at []int, at a list of one number, for at most twelve times. -/
def slices_Repeat_int_int.f (l0 : List Int) (a1 : Int) : Option (List Int) := if l0.length = 1 then (if 0 ≤ a1 then (if a1 ≤ 12 then some (List.replicate a1.toNat (rd l0 0)) else none) else none) else none
theorem slices_Repeat_int_int.mul (a1 : Int) (h0 : 0 ≤ a1) (h1 : a1 ≤ 12) : bits_Mul.f 1 a1 = some (0, a1) := by
  have h : ∀ n : Fin 13, bits_Mul.f 1 (n.val : Int) = some (0, (n.val : Int)) := by decide +kernel
  have := h ⟨a1.toNat, by omega⟩
  rwa [show ((a1.toNat : Nat) : Int) = a1 by omega] at this
/-- The first m cells of a block hold the number. -/
def RepAt (v : Int) (m : Nat) (cur : List Value) : Prop := ∀ j, j < m → cur[j]? = some (.int .i64 v)
theorem RepAt.laid {v : Int} {m c : Nat} {cur : List Value} (h : RepAt v m cur) (hm : m + c ≤ cur.length) : RepAt v (m + c) (Go.splice cur m (List.replicate c (.int .i64 v))) := by
  intro j hj
  unfold Go.splice
  by_cases h1 : j < m
  · rw [List.getElem?_append_left (by simp; omega), List.getElem?_take_of_lt h1]; exact h j h1
  · rw [List.getElem?_append_right (by simp; omega), List.getElem?_append_left (by simp; omega)]
    have e : (List.take m cur).length = m := by simp; omega
    rw [e, List.getElem?_replicate, if_pos (by omega)]
theorem RepAt.own {v : Int} {n cap base g : Nat} {cur : List Value} {w : World} (h : RepAt v n cur) (hg : w.heap[g]? = some (.cells cur.toArray 3 (0, 0))) (hb : base ≤ g) (hn : n ≤ cap) (hc : cap ≤ maxLen) (hl : cur.length = cap) :
    Kd.R (Kd.int .i64) 3 w base (fun _ => True) (.slice (some ⟨g, 0, none⟩) n cap) (List.replicate n v) := by
  refine ⟨fun _ _ => trivial, (List.replicate n (.int .i64 v)), ⟨by simp [Kd.int, Kd.scalar], .inr ⟨g, cap, cur.toArray, by simp, hb, hg, by simpa using hn, hc, by simp [Kd.int, Kd.scalar, hl], ?_⟩⟩, ?_⟩
  · apply List.ext_getElem?
    intro j
    simp only [Kd.int, Kd.scalar, Nat.mul_one, List.length_replicate, List.getElem?_replicate]
    by_cases hj : j < n
    · rw [List.getElem?_take_of_lt hj, if_pos hj]; exact h j hj
    · rw [if_neg hj]; simp; omega
  · refine ⟨by simp [Kd.int, Kd.scalar], fun j p hp => ?_⟩
    simp only [List.getElem?_replicate] at hp
    split at hp
    · rename_i hj
      have hp := Option.some.inj hp
      subst hp
      show List.take 1 (List.drop (j * 1) _) = [_]
      rw [Nat.mul_one, List.drop_replicate, List.take_replicate, Nat.min_eq_left (by omega)]; rfl
    · cases hp
set_option maxHeartbeats 8000000 in
set_option maxRecDepth 100000 in
theorem slices_Repeat_int_int.calls (A0 : Option Addr) (c0 : Nat) (l0 : List Int) (a1 : Int) (r : List Int) (w : World) (hr0 : Kd.C (Kd.int .i64) w A0 l0.length l0) (hc0 : l0.length ≤ c0) (h : slices_Repeat_int_int.f l0 a1 = some r) :
    Calls Try.prog 103 #[.slice A0 l0.length c0, .int .i64 a1] w fun e w' => ∃ v0_ : Value, e = .returned (v0_) ∧ Kd.R (Kd.int .i64) 3 w' w.heap.size (fun _ => True) v0_ r ∧ Below w.heap.size w w' := by
  unfold slices_Repeat_int_int.f at h
  by_cases h1 : l0.length = 1
  · by_cases h2 : 0 ≤ a1
    · by_cases h3 : a1 ≤ 12
      · rw [if_pos h1, if_pos h2, if_pos h3] at h
        obtain rfl := Option.some.inj h
        clear h
        obtain ⟨v, rfl⟩ : ∃ v, l0 = [v] := by
          match l0, h1 with
          | [v], _ => exact ⟨v, rfl⟩
        have HM := Aside0.mk (slices_Repeat_int_int.mul a1 h2 h3)
        obtain ⟨ad, e, hx⟩ := Kd.at_int hr0 0 (by omega) (by simp)
        cases e
        have hx0 : w.cell? (ad.add 0) = some (.int .i64 v) := by simpa [rd] using hx
        clear hx
        have HC0 := Aside0.mk hc0
        have HR0 := Aside0.mk hr0
        clear hr0 hc0 h1
        have HB := Aside0.mk (Below.refl w.heap.size w)
        show Calls Try.prog 103 #[.slice (some ad) 1 c0, .int .i64 a1] w fun e w' => ∃ v0_ : Value, e = .returned (v0_) ∧ Kd.R (Kd.int .i64) 3 w' w.heap.size (fun _ => True) v0_ (List.replicate a1.toNat v) ∧ Below w.heap.size w w'
        obtain ⟨n, rfl⟩ := Int.eq_ofNat_of_zero_le h2
        have h3n : n ≤ 12 := by omega
        clear h2 h3
        simp only [Int.toNat_natCast]
        go_enter Try.func103, Try.ntmps103
        go_upto_region 7 with (first | (go_at_call 116; (refine (bits_Mul.calls 1 n 0 n _ HM.out).mono ?_); rintro e w' ⟨rfl, ⟨nd, rfl⟩⟩) | ((with_reducible refine gate_dst (N := 30) rfl ?_); refine Kd.R_make (Kd.int .i64) _ 3 rfl (N := 30) rfl 25 _ _ rfl (n : Int) rfl rfl Try.underlying25 (.int .i64 0) 8 info3 rfl (by decide) (by omega) 0 (ok := fun _ => True) (okp := fun _ => True) rfl (fun _ hk => hk) trivial (by omega) (by simp; omega) (Below.refl _ _) (Nat.le_refl _) ?_; intro v142 w4 ho5 hb hg_ hnew_; clear hg_ hnew_))
        obtain ⟨_, inner, ⟨hl, ho⟩, hr⟩ := ho5
        simp only [List.length_replicate, Int.toNat_natCast] at hl ho
        have HB4 : Aside0 (Below w.heap.size w w4) := ⟨below_step (pw_below_drewN HB.out _) hb⟩
        have hx4 : w4.cell? (ad.add 0) = some (.int .i64 v) := (HB4.out.cell (World.block_lt_of_cell? w _ hx0)).trans hx0
        clear hb hx0 HB
        rcases ho with ⟨rfl, hz⟩ | ⟨g, cap, cur, rfl, hbg, hg, hncap, hcap, hsz, htake⟩
        · subst hz
          clear hl hr
          go_wp2_with (first | ((with_reducible refine gate_dst (N := 33) rfl ?_); refine wpList_copy_nothing rfl (.tmp 31) (.tmp 32) 25 25 rfl 3 Try.underlying25 (by kernel_rfl) none (some ad) 0 0 1 c0 rfl rfl rfl ?_))
          go_loopg [8] 0 (fun gg v8 wr => v8 = .int .i64 0 ∧ Aside0 (Below w.heap.size w wr))
          case atStart => exact ⟨rfl, HB4⟩
          case round =>
            obtain ⟨rfl, HBr⟩ := hrel
            go_wp2
            go_ret
            exact ⟨_, rfl, Kd.R_nil _ _ _ _ _, HBr.out⟩
        · simp only [Kd.int, Kd.scalar, Nat.mul_one] at hsz htake
          have hle : w.heap.size ≤ g := by have := hbg; simpa using this
          obtain ⟨m1, hm1⟩ : ∃ m1, m1 = min 1 n := ⟨_, rfl⟩
          have HM1 := Aside0.mk hm1
          have HG4 : Aside0 (w4.heap[g]? = some (.cells cur.toList.toArray 3 (0, 0))) := ⟨by simpa using hg⟩
          have HS4 : Aside0 (cur.toList.length = cap) := ⟨by simpa using hsz⟩
          have HN := Aside0.mk hncap
          have HCM := Aside0.mk hcap
          clear hl hr hg hsz htake hbg hm1 hncap hcap
          generalize cur.toList = L at HG4 HS4
          go_wp2_with (first | ((with_reducible refine gate_dst (N := 33) rfl ?_); refine wpList_copy_splice rfl (.tmp 31) (.tmp 32) 25 25 rfl 3 Try.underlying25 (by kernel_rfl) (some ⟨g, 0, none⟩) (some ad) n cap 1 c0 rfl rfl g 0 L 3 HG4.out (List.replicate m1 (.int .i64 v)) (by rw [List.length_replicate]; exact HM1.out) (fun _ => ⟨rfl, ad, rfl, fun j u hu => ?q1⟩) (by have := HM1.out; have := HN.out; have := HS4.out; rw [List.length_replicate]; omega) (fun u hu => by rw [List.eq_of_mem_replicate hu]; rfl) w.heap.size w HB4.out hle ?_; (case q1 => have h9 := HM1.out; rw [List.getElem?_replicate] at hu; split at hu <;> first | (obtain rfl : j = 0 := by omega); rw [← Option.some.inj hu]; exact hx4 | cases hu); intro w5 HG5 hb5))
          have hb5 := Aside0.mk hb5
          have HG5 : Aside0 (w5.heap[g]? = some (.cells (Go.splice L 0 (List.replicate m1 (.int .i64 v))).toArray 3 (0, 0))) := ⟨HG5⟩
          have HS5 : Aside0 ((Go.splice L 0 (List.replicate m1 (.int .i64 v))).length = cap) := ⟨by have := HM1.out; have := HN.out; have := HS4.out; rw [length_splice]; exact HS4.out; rw [List.length_replicate]; omega⟩
          have HP5 : Aside0 (RepAt v m1 (Go.splice L 0 (List.replicate m1 (.int .i64 v)))) := ⟨by have h := RepAt.laid (v := v) (m := 0) (c := m1) (cur := L) (fun j hj => absurd hj (Nat.not_lt_zero j)) (by have := HM1.out; have := HN.out; have := HS4.out; omega); rwa [Nat.zero_add] at h⟩
          generalize Go.splice L 0 (List.replicate m1 (.int .i64 v)) = L5 at HG5 HS5 HP5
          go_loopg [8] n (fun gg v8 wr => ∃ (m : Nat) (Lr : List Value), v8 = .int .i64 m ∧ m ≤ n ∧ (0 < n → 0 < m) ∧ n - m ≤ gg ∧ Aside0 (wr.heap[g]? = some (.cells Lr.toArray 3 (0, 0))) ∧ Aside0 (Lr.length = cap) ∧ Aside0 (RepAt v m Lr) ∧ Aside0 (Below w.heap.size w wr))
          case atStart => exact ⟨m1, L5, by first | rfl | simp, by have := HM1.out; omega, by have := HM1.out; omega, by omega, HG5, HS5, HP5, hb5⟩
          case round =>
            obtain ⟨m, Lr, rfl, hmn, hm0, hgg, HGr, HSr, HPr, HBr⟩ := hrel
            by_cases hlt : m < n
            · have HLT := Aside0.mk hlt
              have HGG := Aside0.mk hgg
              have HMP := Aside0.mk (hm0 (by omega))
              have q1 : ((m : Int) < (n : Int)) = True := eq_true (by omega)
              have q2 : ((m : Int) ≤ (n : Int)) = True := eq_true (by omega)
              have q3 : ((m : Int) ≤ (cap : Int)) = True := eq_true (by have := HN.out; omega)
              have q4 : (cap = m) = False := eq_false (by have := HN.out; omega)
              have q5 : (0 ≤ (m : Int)) = True := eq_true (by omega)
              have HMN := Aside0.mk hmn
              clear hlt hgg hm0 hmn
              obtain ⟨c, hc⟩ : ∃ c, c = min m (n - m) := ⟨_, rfl⟩
              have HCC := Aside0.mk hc
              clear hc
              have HCELL : Aside0 (∀ W : World, W.heap = wr.heap → ∀ j u, (List.replicate c (Value.int .i64 v))[j]? = some u → W.cell? ((⟨g, 0, none⟩ : Addr).add j) = some u) := ⟨fun W hW j u hu => by
                have h9 := HCC.out
                rw [List.getElem?_replicate] at hu
                split at hu
                · rename_i hj
                  have hL := HPr.out j (by omega)
                  rw [← Option.some.inj hu]
                  have hH := HGr.out
                  rw [← hW] at hH
                  rw [Addr.add_lit, Nat.zero_add]
                  simp [World.cell?, hH, hL]
                · cases hu⟩
              have q6 : IntKind.i64.wrap ((m : Int) + (c : Int)) = (m : Int) + (c : Int) := by
                have h9 := HCC.out
                have h8 := HMN.out
                rw [i64_w]; unfold wrap64; omega
              go_wp2
              go_region_law (refine step_copy_splice rfl (.tmp 41) (.tmp 44) 25 25 rfl 3 Try.underlying25 (by kernel_rfl) (some ⟨g, m, none⟩) (some ⟨g, 0, none⟩) (n - m) (cap - m) m cap (by simp [Act.eval, Act.put]) (by simp [Act.eval, Act.put]) g m Lr 3 (show wr.heap[g]? = _ from HGr.out) (List.replicate c (.int .i64 v)) (by rw [List.length_replicate]; exact HCC.out) (fun _ => ⟨rfl, ⟨g, 0, none⟩, rfl, HCELL.out _ rfl⟩) (by have := HCC.out; have := HN.out; have := HSr.out; have := HMN.out; rw [List.length_replicate]; omega) (fun u hu => by rw [List.eq_of_mem_replicate hu]; rfl) w.heap.size w (by repeat (first | exact HBr.out | apply below_drew1 | apply pw_below_drewN)) hle ?_; intro w6 HG6 hb6)
              have HG6 : Aside0 (w6.heap[g]? = some (.cells (Go.splice Lr m (List.replicate c (.int .i64 v))).toArray 3 (0, 0))) := ⟨HG6⟩
              have HS6 : Aside0 ((Go.splice Lr m (List.replicate c (.int .i64 v))).length = cap) := ⟨by have := HCC.out; have := HN.out; have := HSr.out; have := HMN.out; rw [length_splice]; exact HSr.out; rw [List.length_replicate]; omega⟩
              have HP6 : Aside0 (RepAt v (m + c) (Go.splice Lr m (List.replicate c (.int .i64 v)))) := ⟨HPr.out.laid (by have := HCC.out; have := HN.out; have := HSr.out; have := HMN.out; omega)⟩
              have HB6 := Aside0.mk hb6
              generalize Go.splice Lr m (List.replicate c (.int .i64 v)) = L6 at HG6 HS6 HP6
              go_wp2
              go_roundg (n - (m + c))
              case measure => have := HCC.out; have := HLT.out; have := HGG.out; have := HMP.out; omega
              case rel => exact ⟨m + c, L6, by first | rfl | (simp; done) | go_num, by have := HCC.out; have := HMN.out; omega, by have := HMP.out; omega, by omega, HG6, HS6, HP6, HB6⟩
            · have HMN : m = n := by omega
              subst HMN
              have q1 : ((m : Int) < (m : Int)) = False := eq_false (by omega)
              go_wp2
              go_ret
              exact ⟨_, rfl, RepAt.own HPr.out HGr.out hle HN.out HCM.out HSr.out, HBr.out⟩
      · rw [if_pos h1, if_pos h2, if_neg h3] at h; cases h
    · rw [if_pos h1, if_neg h2] at h; cases h
  · rw [if_neg h1] at h; cases h

/-! ### impl_Meander_way: function 104 -/
def impl_Meander_way.l0 : Nat → Int → List Int → Int → List Int → List Int → Option (List Int)
  | 0, _, _, _, _, _ => none
  | k + 1, x1, x5, x6, x277000, x277001 => if 0 ≤ x6 then (if x6 < (x277000.length : Int) then ((some (([x6, rd x277000 x6] : List Int) : List Int)).bind fun y281 => (if x5.length + y281.length < 17592186044416 then ((some (x5 ++ y281 : List Int)).bind fun y284 => (if 0 ≤ (rd x277000 x6) then (if (rd x277000 x6) < (x277001.length : Int) then (if (rd x277001 (rd x277000 x6)) = x1 then (some y284) else (impl_Meander_way.l0 k x1 y284 (rd x277001 (rd x277000 x6)) x277000 x277001)) else (none)) else (none))) else (none))) else (none)) else (none)
def impl_Meander_way.f (k : Nat) (l0_0 : List Int) (l0_1 : List Int) (a1 : Int) : Option (List Int) := impl_Meander_way.l0 k a1 (([] : List Int)) a1 l0_0 l0_1
theorem impl_Meander_way.mono_l : ∀ k, (∀ y0 y1 y2 y3 y4, LeO (impl_Meander_way.l0 k y0 y1 y2 y3 y4) (impl_Meander_way.l0 (k + 1) y0 y1 y2 y3 y4))
  | 0 => fun _ _ _ _ _ r h => by simp [impl_Meander_way.l0] at h
  | k + 1 => by
    have ih0 := impl_Meander_way.mono_l k
    · intro y0 y1 y2 y3 y4
      unfold impl_Meander_way.l0
      repeat' first
      | (with_reducible exact ih0 _ _ _ _ _)
      | (with_reducible exact LeO.refl _)
      | (with_reducible exact LeO.none _)
      | (with_reducible refine LeO.ite ?_ ?_)
      | (with_reducible refine LeO.bind ?_ (fun _ => ?_))
      | exact ih0 _ _ _ _ _
      | exact LeO.none _
      | refine LeO.ite ?_ ?_
      | refine LeO.bind ?_ (fun _ => ?_)
theorem impl_Meander_way.mono : ∀ a0 a1 a2 k, LeO (impl_Meander_way.f k a0 a1 a2) (impl_Meander_way.f (k + 1) a0 a1 a2) := by
  intro a0 a1 a2 k
  have ih0 := impl_Meander_way.mono_l k
  unfold impl_Meander_way.f
  repeat' first
      | (with_reducible exact ih0 _ _ _ _ _)
      | (with_reducible exact LeO.refl _)
      | (with_reducible exact LeO.none _)
      | (with_reducible refine LeO.ite ?_ ?_)
      | (with_reducible refine LeO.bind ?_ (fun _ => ?_))
      | exact ih0 _ _ _ _ _
      | exact LeO.none _
      | refine LeO.ite ?_ ?_
      | refine LeO.bind ?_ (fun _ => ?_)
set_option maxHeartbeats 8000000 in
set_option maxRecDepth 100000 in
theorem impl_Meander_way.calls (k : Nat) (A0_0 : Option Addr) (c0_0 : Nat) (l0_0 : List Int) (A0_1 : Option Addr) (c0_1 : Nat) (l0_1 : List Int) (a1 : Int) (r : List Int) (w : World) (hr0_0 : Kd.C (Kd.int .i64) w A0_0 l0_0.length l0_0) (hc0_0 : l0_0.length ≤ c0_0) (hr0_1 : Kd.C (Kd.int .i64) w A0_1 l0_1.length l0_1) (hc0_1 : l0_1.length ≤ c0_1) (h : impl_Meander_way.f k l0_0 l0_1 a1 = some r) :
    Calls Try.prog 104 #[.agg #[.slice A0_0 l0_0.length c0_0, .slice A0_1 l0_1.length c0_1], .int .i64 a1] w fun e w' => ∃ v0_ : Value, e = .returned (v0_) ∧ Kd.R (Kd.int .i64) 3 w' w.heap.size (fun _ => True) v0_ r ∧ Below w.heap.size w w' := by
  have hu44 := Try.underlying44
  have HR0_0 := Aside0.mk hr0_0
  have HC0_0 := Aside0.mk hc0_0
  clear hr0_0 hc0_0
  have HR0_1 := Aside0.mk hr0_1
  have HC0_1 := Aside0.mk hc0_1
  clear hr0_1 hc0_1
  have HB := Aside0.mk (Below.refl w.heap.size w)
  have H : (impl_Meander_way.l0 k a1 (([] : List Int)) a1 l0_0 l0_1) = some r := h
  clear h
  obtain ⟨y277, hy277⟩ : ∃ y_ : List Int, y_ = (([] : List Int)) := ⟨_, rfl⟩
  replace H : (impl_Meander_way.l0 k a1 y277 a1 l0_0 l0_1) = some r := by first | (rw [hy277]; with_reducible exact H) | (have H2_ := (Option.bind_some _ _).symm.trans H; rw [hy277]; with_reducible exact H2_) | (have H2_ := (Option.bind_some _ _).symm.trans H; with_reducible exact H2_) | with_reducible exact H | (rw [hy277]; exact H) | exact H
  have Ny277 := Aside0.mk hy277
  clear hy277
  have H' := Aside0.mk H
  clear H
  go_enter Try.func104, Try.ntmps104
  go_wp2_with (first | ((with_reducible refine gate_dst (N := 2) rfl ?_); refine box_event ?hg (N := 2) ?hd (cs := #[.slice A0_0 l0_0.length c0_0, .slice A0_1 l0_1.length c0_1]) (t := 44) ?hr ?_; (case hd => rfl); (case hg => rfl); (case hr => first | (go_simp; done) | (go_simp; rfl)); intro gb276 hg w3 hbox hb; have n0_ := Aside0.mk (below_step (by repeat (first | (with_reducible first | exact HB.out | apply below_alloc | apply pw_below_drewN | apply below_drew1) | exact HB.out)) hb); have n1_ := Aside0.mk (hbox); have n2_ := Aside0.mk ((by rw [hg]; exact (below_size (by repeat (first | (with_reducible first | exact HB.out | apply below_alloc | apply pw_below_drewN | apply below_drew1) | exact HB.out))) : w.heap.size ≤ gb276)); have n3_ := Aside0.mk ((by rw [hg]; exact (below_size (by repeat (first | (with_reducible first | exact HB.out | apply below_alloc | apply pw_below_drewN | apply below_drew1) | exact HB.out))) : w.heap.size ≤ gb276)); clear HB; have HB := n0_; have BK276 := n1_; have GW276 := n2_; have GE276 := n3_; clear n0_ n1_ n2_ n3_; clear hb hbox hg) | ((with_reducible refine gate_dst (N := 8) rfl ?_); refine Kd.R_lit (Kd.int .i64) _ 3 ?hg (N := 8) ?hd (xs := ([] : List Int)) (inner := []) (ok := fun _ => True) (okp := fun _ => True) ?hr ?hp (fun _ hk => hk) trivial (Below.refl _ _) (Nat.le_refl _) (by simp) ?_; (case hd => rfl); (case hg => rfl); (case hr => first | (go_simp; done) | (go_simp; rfl)); (case hp => exact (Reps.none _ _)); intro v278 w4 ho5 hb hg_ hnew_; clear hg_ hnew_; (first | rw [← Ny277.out] at ho5 | (simp only [Int.reduceToNat] at ho5; rw [← Ny277.out] at ho5)); have n0_ := Aside0.mk (Kd.R_lower ho5 (below_size (by repeat (first | (with_reducible first | exact HB.out | apply below_alloc | apply pw_below_drewN | apply below_drew1 | refine below_set ?_ GE276.out) | exact HB.out)))); have n1_ := Aside0.mk (blk_below (g := gb276) (o := .cells #[.slice A0_0 l0_0.length c0_0, .slice A0_1 l0_1.length c0_1] 44 (0, 0)) (by (with_reducible repeat (first | refine blk_drewN ?_ _ | refine blk_drew ?_ | refine blk_alloc ?_ _)); exact BK276.out) hb); have n2_ := Aside0.mk (below_step (by repeat (first | (with_reducible first | exact HB.out | apply below_alloc | apply pw_below_drewN | apply below_drew1 | refine below_set ?_ GE276.out) | exact HB.out)) hb); clear BK276; clear HB; have HO279 := n0_; have BK276 := n1_; have HB := n2_; clear n0_ n1_ n2_; clear hb ho5))
  go_loopg [5, 6] k (fun kq v5 v6 w' => ∃ (x5_1 : List Int) (x6_1 : Int), v6 = .int .i64 x6_1 ∧ Aside0 (impl_Meander_way.l0 kq a1 x5_1 x6_1 l0_0 l0_1 = some r) ∧ Aside0 (kq ≤ k) ∧ Aside0 (Kd.R (Kd.int .i64) 3 w' w.heap.size (fun _ => True) v5 x5_1) ∧ Aside0 (w'.heap[gb276]? = some (.cells #[(.slice A0_0 l0_0.length c0_0), (.slice A0_1 l0_1.length c0_1)] 44 (0, 0))) ∧ Aside0 (Below w.heap.size w w'))
  case atStart => exact ⟨(y277), (a1), (by first | rfl | (simp; done) | (simp [*]; done)), H', ⟨Nat.le_refl _⟩, ⟨by (with_reducible repeat (first | apply Kd.R_alloc | apply Kd.R_drewN | apply Kd.R_drew)); exact HO279.out⟩, ⟨by (with_reducible repeat (first | refine blk_drewN ?_ _ | refine blk_drew ?_ | refine blk_alloc ?_ _)); exact BK276.out⟩, ⟨by repeat (first | (with_reducible first | exact HB.out | apply below_alloc | apply pw_below_drewN | apply below_drew1 | refine below_set ?_ GE276.out) | exact HB.out)⟩⟩
  case round =>
    clear H'
    try clear c1
    try clear p2
    obtain ⟨x5_1, x6_1, rfl, HA, HK1, HO_5, BK276, HB⟩ := hrel
    cases gk with
    | zero => exact absurd HA.out (by simp [impl_Meander_way.l0])
    | succ k1 =>
      have H := HA.out
      clear HA
      simp only [impl_Meander_way.l0] at H
      by_cases c6 : 0 ≤ x6_1
      · rw [if_pos c6] at H
        have c6b0 : decide (0 ≤ x6_1) = true := decide_eq_true c6
        clear c6
        by_cases c7 : x6_1 < (l0_0.length : Int)
        · rw [if_pos c7] at H
          have c7b0 : decide (x6_1 < (l0_0.length : Int)) = true := decide_eq_true c7
          clear c7
          obtain ⟨y281, hy281⟩ : ∃ y_ : List Int, y_ = (([x6_1, rd l0_0 x6_1] : List Int)) := ⟨_, rfl⟩
          replace H : (if x5_1.length + y281.length < 17592186044416 then ((some (x5_1 ++ y281 : List Int)).bind fun y284 => (if 0 ≤ (rd l0_0 x6_1) then (if (rd l0_0 x6_1) < (l0_1.length : Int) then (if (rd l0_1 (rd l0_0 x6_1)) = a1 then (some y284) else (impl_Meander_way.l0 k1 a1 y284 (rd l0_1 (rd l0_0 x6_1)) l0_0 l0_1)) else (none)) else (none))) else (none)) = some r := by first | (rw [hy281]; with_reducible exact H) | (have H2_ := (Option.bind_some _ _).symm.trans H; rw [hy281]; with_reducible exact H2_) | (have H2_ := (Option.bind_some _ _).symm.trans H; with_reducible exact H2_) | with_reducible exact H | (rw [hy281]; exact H) | exact H
          have Ny281 := Aside0.mk hy281
          clear hy281
          by_cases c8 : x5_1.length + y281.length < 17592186044416
          · rw [if_pos c8] at H
            have LMc8 := Aside0.mk c8
            clear c8
            obtain ⟨y284, hy284⟩ : ∃ y_ : List Int, y_ = (x5_1 ++ y281) := ⟨_, rfl⟩
            replace H : (if 0 ≤ (rd l0_0 x6_1) then (if (rd l0_0 x6_1) < (l0_1.length : Int) then (if (rd l0_1 (rd l0_0 x6_1)) = a1 then (some y284) else (impl_Meander_way.l0 k1 a1 y284 (rd l0_1 (rd l0_0 x6_1)) l0_0 l0_1)) else (none)) else (none)) = some r := by first | (rw [hy284]; with_reducible exact H) | (have H2_ := (Option.bind_some _ _).symm.trans H; rw [hy284]; with_reducible exact H2_) | (have H2_ := (Option.bind_some _ _).symm.trans H; with_reducible exact H2_) | with_reducible exact H | (rw [hy284]; exact H) | exact H
            have Ny284 := Aside0.mk hy284
            clear hy284
            by_cases c9 : 0 ≤ (rd l0_0 x6_1)
            · rw [if_pos c9] at H
              have c9b0 : decide (0 ≤ (rd l0_0 x6_1)) = true := decide_eq_true c9
              clear c9
              by_cases c10 : (rd l0_0 x6_1) < (l0_1.length : Int)
              · rw [if_pos c10] at H
                have c10b0 : decide ((rd l0_0 x6_1) < (l0_1.length : Int)) = true := decide_eq_true c10
                clear c10
                by_cases c11 : (rd l0_1 (rd l0_0 x6_1)) = a1
                · rw [if_pos c11] at H
                  have c11b0 : ((rd l0_1 (rd l0_0 x6_1)) == a1) = true := beq_iff_eq.mpr c11
                  have c11b1 : ((rd l0_1 (rd l0_0 x6_1)) != a1) = false := bne_eq_false_iff_eq.mpr c11
                  clear c11
                  obtain rfl := Option.some.inj H
                  have hcz12_0 : wr.cell? ⟨gb276, 0, none⟩ = some (.slice A0_0 l0_0.length c0_0) := (blk_cell BK276.out 0).trans rfl
                  have hcz12_1 : wr.cell? ⟨gb276, 1, none⟩ = some (.slice A0_1 l0_1.length c0_1) := (blk_cell BK276.out 1).trans rfl
                  have hfz12_0 := blk_frozen BK276.out 0
                  have hfz12_1 := blk_frozen BK276.out 1
                  have p280 : 0 ≤ (x6_1 : Int) := of_decide_eq_true (by first | (with_reducible assumption) | assumption)
                  have q280 : x6_1 < (l0_0.length : Int) := of_decide_eq_true (by first | (with_reducible assumption) | assumption)
                  obtain ⟨ad280, e280, hx280_0⟩ := Kd.at_int HR0_0.out x6_1 p280 q280
                  cases e280
                  replace hx280_0 := (HB.out.cell (World.block_lt_of_cell? w _ hx280_0)).trans hx280_0
                  replace p280 := eq_true p280
                  replace q280 := eq_true q280
                  go_wp2_with (first | ((with_reducible refine gate_dst (N := 18) rfl ?_); refine Kd.R_lit (Kd.int .i64) _ 3 ?hg (N := 18) ?hd (xs := ([x6_1, rd l0_0 x6_1] : List Int)) (inner := [.int .i64 x6_1, .int .i64 (rd l0_0 x6_1)]) (ok := fun _ => True) (okp := fun _ => True) ?hr ?hp (fun _ hk => hk) trivial (Below.refl _ _) (Nat.le_refl _) (by simp) ?_; (case hd => rfl); (case hg => rfl); (case hr => first | (go_simp; done) | (go_simp; rfl)); (case hp => exact (Reps.one (show Kd.M (Kd.int .i64) _ _ _ x6_1 [.int .i64 x6_1] from rfl) (Reps.one (show Kd.M (Kd.int .i64) _ _ _ (rd l0_0 x6_1) [.int .i64 (rd l0_0 x6_1)] from rfl) (Reps.none _ _)))); intro v282 w13 ho14 hb hg_ hnew_; clear hg_ hnew_; (first | rw [← Ny281.out] at ho14 | (simp only [Int.reduceToNat] at ho14; rw [← Ny281.out] at ho14)); have n0_ := Aside0.mk (Kd.R_elder' (by (with_reducible repeat (first | apply Kd.R_alloc | apply Kd.R_drewN | apply Kd.R_drew)); exact HO_5.out) (Kd.R_base ho14) hb); have n1_ := Aside0.mk (Kd.R_lower (Kd.R_new' ho14 (Kd.R_lt (by (with_reducible repeat (first | apply Kd.R_alloc | apply Kd.R_drewN | apply Kd.R_drew)); exact HO_5.out))) (below_size (by repeat (first | (with_reducible first | exact HB.out | apply below_alloc | apply pw_below_drewN | apply below_drew1 | refine below_set ?_ GE276.out) | exact HB.out)))); have n2_ := Aside0.mk (blk_below (g := gb276) (o := .cells #[.slice (some ad280) l0_0.length c0_0, .slice A0_1 l0_1.length c0_1] 44 (0, 0)) (by (with_reducible repeat (first | refine blk_drewN ?_ _ | refine blk_drew ?_ | refine blk_alloc ?_ _)); exact BK276.out) hb); have n3_ := Aside0.mk (below_step (by repeat (first | (with_reducible first | exact HB.out | apply below_alloc | apply pw_below_drewN | apply below_drew1 | refine below_set ?_ GE276.out) | exact HB.out)) hb); clear HO_5; clear BK276; clear HB; have HO_5 := n0_; have HO283 := n1_; have BK276 := n2_; have HB := n3_; clear n0_ n1_ n2_ n3_; clear hb ho14; obtain ⟨Ao16, co16, eo16⟩ := Kd.R_slice HO283.out; subst eo16) | ((with_reducible refine gate_builtin (b := .append) (xs := #[.tmp 15, .tmp 18]) rfl ?_); at_builtin; refine Kd.R_append_rows (Kd.int .i64) (w0 := w) w.heap.size rfl (.tmp 15) (.tmp 18) 25 3 (.int .i64 0) 8 rfl Try.underlying25 info3 rfl (by decide) (by omega) u5 x5_1 y281 _ _ _ (fun k_ => some k_ ≠ (.slice Ao16 y281.length co16 : Value).ownBlock) (fun _ => False) rfl rfl ?aO ?aR (fun _ _ h => h) (fun _ h => h.elim) ?aF ?aB ?aS ?aL ?_; (case aR => repeat (first | exact (Kd.R_reads' HO283.out).2.2 | (with_reducible refine Kd.C_alloc ?_ _) | (with_reducible refine Kd.C_drewN ?_ _) | (with_reducible refine Kd.C_drew ?_))); (case aB => exact (by repeat (first | (with_reducible first | exact HB.out | apply below_alloc | apply pw_below_drewN | apply below_drew1 | refine below_set ?_ GE276.out) | exact HB.out))); (case aF => exact (fun k_ hk => Kd.fresh' (Kd.R_lt (by (with_reducible repeat (first | apply Kd.R_alloc | apply Kd.R_drewN | apply Kd.R_drew)); exact HO283.out)) k_ hk)); (case aO => exact (by (with_reducible repeat (first | apply Kd.R_alloc | apply Kd.R_drewN | apply Kd.R_drew)); exact Kd.R_mono HO_5.out (fun _ hk => hk.2))); (case aS => exact (below_size (by repeat (first | (with_reducible first | exact HB.out | apply below_alloc | apply pw_below_drewN | apply below_drew1 | refine below_set ?_ GE276.out) | exact HB.out)))); (case aL => have := LMc8.out; omega); intro v285 w15 ho hb hg hat; rw [← Ny284.out] at ho; have n0_ := Aside0.mk (blk_grown (g := gb276) (o := .cells #[.slice (some ad280) l0_0.length c0_0, .slice A0_1 l0_1.length c0_1] 44 (0, 0)) (by (with_reducible repeat (first | refine blk_drewN ?_ _ | refine blk_drew ?_ | refine blk_alloc ?_ _)); exact BK276.out) hg (Kd.R_ne HO_5.out BK276.out (by decide))); have n1_ := Aside0.mk (Kd.R_after (ok := (fun _ => True)) (by (with_reducible repeat (first | apply Kd.R_alloc | apply Kd.R_drewN | apply Kd.R_drew)); exact HO283.out) hg hat); have n2_ := Aside0.mk (hb); have n3_ := Aside0.mk (ho); clear BK276; clear HO283; clear HB; clear HO_5; have BK276 := n0_; have HO283 := n1_; have HB := n2_; have HO286 := n3_; clear n0_ n1_ n2_ n3_; clear ho hb hg hat; have hcz17_0 : w15.cell? ⟨gb276, 0, none⟩ = some (.slice (some ad280) l0_0.length c0_0) := (blk_cell BK276.out 0).trans rfl; have hcz17_1 : w15.cell? ⟨gb276, 1, none⟩ = some (.slice A0_1 l0_1.length c0_1) := (blk_cell BK276.out 1).trans rfl; have hfz17_0 := blk_frozen BK276.out 0; have hfz17_1 := blk_frozen BK276.out 1; have p287 : 0 ≤ ((rd l0_0 x6_1) : Int) := of_decide_eq_true (by first | (with_reducible assumption) | assumption); have q287 : (rd l0_0 x6_1) < (l0_1.length : Int) := of_decide_eq_true (by first | (with_reducible assumption) | assumption); obtain ⟨ad287, e287, hx287_0⟩ := Kd.at_int HR0_1.out (rd l0_0 x6_1) p287 q287; cases e287; replace hx287_0 := (HB.out.cell (World.block_lt_of_cell? w _ hx287_0)).trans hx287_0; replace p287 := eq_true p287; replace q287 := eq_true q287))
                  go_ret
                  exact ⟨_, by first | rfl | (simp [errW_none, errW_some] <;> rfl) | (simp [*, errW_none, errW_some] <;> rfl), by (with_reducible repeat (first | apply Kd.R_alloc | apply Kd.R_drewN | apply Kd.R_drew)); exact Kd.R_mono HO286.out (fun _ hk => trivial), by repeat (first | (with_reducible first | exact HB.out | apply below_alloc | apply pw_below_drewN | apply below_drew1 | refine below_set ?_ GE276.out) | exact HB.out)⟩
                · rw [if_neg c11] at H
                  have c11b0 : ((rd l0_1 (rd l0_0 x6_1)) == a1) = false := beq_eq_false_iff_ne.mpr c11
                  have c11b1 : ((rd l0_1 (rd l0_0 x6_1)) != a1) = true := bne_iff_ne.mpr c11
                  have H' := Aside0.mk H
                  clear H
                  have hcz18_0 : wr.cell? ⟨gb276, 0, none⟩ = some (.slice A0_0 l0_0.length c0_0) := (blk_cell BK276.out 0).trans rfl
                  have hcz18_1 : wr.cell? ⟨gb276, 1, none⟩ = some (.slice A0_1 l0_1.length c0_1) := (blk_cell BK276.out 1).trans rfl
                  have hfz18_0 := blk_frozen BK276.out 0
                  have hfz18_1 := blk_frozen BK276.out 1
                  have p280 : 0 ≤ (x6_1 : Int) := of_decide_eq_true (by first | (with_reducible assumption) | assumption)
                  have q280 : x6_1 < (l0_0.length : Int) := of_decide_eq_true (by first | (with_reducible assumption) | assumption)
                  obtain ⟨ad280, e280, hx280_0⟩ := Kd.at_int HR0_0.out x6_1 p280 q280
                  cases e280
                  replace hx280_0 := (HB.out.cell (World.block_lt_of_cell? w _ hx280_0)).trans hx280_0
                  replace p280 := eq_true p280
                  replace q280 := eq_true q280
                  go_wp2_with (first | ((with_reducible refine gate_dst (N := 18) rfl ?_); refine Kd.R_lit (Kd.int .i64) _ 3 ?hg (N := 18) ?hd (xs := ([x6_1, rd l0_0 x6_1] : List Int)) (inner := [.int .i64 x6_1, .int .i64 (rd l0_0 x6_1)]) (ok := fun _ => True) (okp := fun _ => True) ?hr ?hp (fun _ hk => hk) trivial (Below.refl _ _) (Nat.le_refl _) (by simp) ?_; (case hd => rfl); (case hg => rfl); (case hr => first | (go_simp; done) | (go_simp; rfl)); (case hp => exact (Reps.one (show Kd.M (Kd.int .i64) _ _ _ x6_1 [.int .i64 x6_1] from rfl) (Reps.one (show Kd.M (Kd.int .i64) _ _ _ (rd l0_0 x6_1) [.int .i64 (rd l0_0 x6_1)] from rfl) (Reps.none _ _)))); intro v282 w19 ho20 hb hg_ hnew_; clear hg_ hnew_; (first | rw [← Ny281.out] at ho20 | (simp only [Int.reduceToNat] at ho20; rw [← Ny281.out] at ho20)); have n0_ := Aside0.mk (Kd.R_elder' (by (with_reducible repeat (first | apply Kd.R_alloc | apply Kd.R_drewN | apply Kd.R_drew)); exact HO_5.out) (Kd.R_base ho20) hb); have n1_ := Aside0.mk (Kd.R_lower (Kd.R_new' ho20 (Kd.R_lt (by (with_reducible repeat (first | apply Kd.R_alloc | apply Kd.R_drewN | apply Kd.R_drew)); exact HO_5.out))) (below_size (by repeat (first | (with_reducible first | exact HB.out | apply below_alloc | apply pw_below_drewN | apply below_drew1 | refine below_set ?_ GE276.out) | exact HB.out)))); have n2_ := Aside0.mk (blk_below (g := gb276) (o := .cells #[.slice (some ad280) l0_0.length c0_0, .slice A0_1 l0_1.length c0_1] 44 (0, 0)) (by (with_reducible repeat (first | refine blk_drewN ?_ _ | refine blk_drew ?_ | refine blk_alloc ?_ _)); exact BK276.out) hb); have n3_ := Aside0.mk (below_step (by repeat (first | (with_reducible first | exact HB.out | apply below_alloc | apply pw_below_drewN | apply below_drew1 | refine below_set ?_ GE276.out) | exact HB.out)) hb); clear HO_5; clear BK276; clear HB; have HO_5 := n0_; have HO283 := n1_; have BK276 := n2_; have HB := n3_; clear n0_ n1_ n2_ n3_; clear hb ho20; obtain ⟨Ao22, co22, eo22⟩ := Kd.R_slice HO283.out; subst eo22) | ((with_reducible refine gate_builtin (b := .append) (xs := #[.tmp 15, .tmp 18]) rfl ?_); at_builtin; refine Kd.R_append_rows (Kd.int .i64) (w0 := w) w.heap.size rfl (.tmp 15) (.tmp 18) 25 3 (.int .i64 0) 8 rfl Try.underlying25 info3 rfl (by decide) (by omega) u5 x5_1 y281 _ _ _ (fun k_ => some k_ ≠ (.slice Ao22 y281.length co22 : Value).ownBlock) (fun _ => False) rfl rfl ?aO ?aR (fun _ _ h => h) (fun _ h => h.elim) ?aF ?aB ?aS ?aL ?_; (case aR => repeat (first | exact (Kd.R_reads' HO283.out).2.2 | (with_reducible refine Kd.C_alloc ?_ _) | (with_reducible refine Kd.C_drewN ?_ _) | (with_reducible refine Kd.C_drew ?_))); (case aB => exact (by repeat (first | (with_reducible first | exact HB.out | apply below_alloc | apply pw_below_drewN | apply below_drew1 | refine below_set ?_ GE276.out) | exact HB.out))); (case aF => exact (fun k_ hk => Kd.fresh' (Kd.R_lt (by (with_reducible repeat (first | apply Kd.R_alloc | apply Kd.R_drewN | apply Kd.R_drew)); exact HO283.out)) k_ hk)); (case aO => exact (by (with_reducible repeat (first | apply Kd.R_alloc | apply Kd.R_drewN | apply Kd.R_drew)); exact Kd.R_mono HO_5.out (fun _ hk => hk.2))); (case aS => exact (below_size (by repeat (first | (with_reducible first | exact HB.out | apply below_alloc | apply pw_below_drewN | apply below_drew1 | refine below_set ?_ GE276.out) | exact HB.out)))); (case aL => have := LMc8.out; omega); intro v285 w21 ho hb hg hat; rw [← Ny284.out] at ho; have n0_ := Aside0.mk (blk_grown (g := gb276) (o := .cells #[.slice (some ad280) l0_0.length c0_0, .slice A0_1 l0_1.length c0_1] 44 (0, 0)) (by (with_reducible repeat (first | refine blk_drewN ?_ _ | refine blk_drew ?_ | refine blk_alloc ?_ _)); exact BK276.out) hg (Kd.R_ne HO_5.out BK276.out (by decide))); have n1_ := Aside0.mk (Kd.R_after (ok := (fun _ => True)) (by (with_reducible repeat (first | apply Kd.R_alloc | apply Kd.R_drewN | apply Kd.R_drew)); exact HO283.out) hg hat); have n2_ := Aside0.mk (hb); have n3_ := Aside0.mk (ho); clear BK276; clear HO283; clear HB; clear HO_5; have BK276 := n0_; have HO283 := n1_; have HB := n2_; have HO286 := n3_; clear n0_ n1_ n2_ n3_; clear ho hb hg hat; have hcz23_0 : w21.cell? ⟨gb276, 0, none⟩ = some (.slice (some ad280) l0_0.length c0_0) := (blk_cell BK276.out 0).trans rfl; have hcz23_1 : w21.cell? ⟨gb276, 1, none⟩ = some (.slice A0_1 l0_1.length c0_1) := (blk_cell BK276.out 1).trans rfl; have hfz23_0 := blk_frozen BK276.out 0; have hfz23_1 := blk_frozen BK276.out 1; have p287 : 0 ≤ ((rd l0_0 x6_1) : Int) := of_decide_eq_true (by first | (with_reducible assumption) | assumption); have q287 : (rd l0_0 x6_1) < (l0_1.length : Int) := of_decide_eq_true (by first | (with_reducible assumption) | assumption); obtain ⟨ad287, e287, hx287_0⟩ := Kd.at_int HR0_1.out (rd l0_0 x6_1) p287 q287; cases e287; replace hx287_0 := (HB.out.cell (World.block_lt_of_cell? w _ hx287_0)).trans hx287_0; replace p287 := eq_true p287; replace q287 := eq_true q287))
                  go_roundg k1
                  case measure => have := HK1.out; omega
                  case rel => exact ⟨(y284), (rd l0_1 (rd l0_0 x6_1)), (by first | rfl | (simp; done) | (simp [*]; done)), H', ⟨by have := HK1.out; omega⟩, ⟨by (with_reducible repeat (first | apply Kd.R_alloc | apply Kd.R_drewN | apply Kd.R_drew)); exact Kd.R_mono HO286.out (fun _ hk => trivial)⟩, ⟨by (with_reducible repeat (first | refine blk_drewN ?_ _ | refine blk_drew ?_ | refine blk_alloc ?_ _)); exact BK276.out⟩, ⟨by repeat (first | (with_reducible first | exact HB.out | apply below_alloc | apply pw_below_drewN | apply below_drew1 | refine below_set ?_ GE276.out) | exact HB.out)⟩⟩
              · rw [if_neg c10] at H
                exact absurd H (by simp)
            · rw [if_neg c9] at H
              exact absurd H (by simp)
          · rw [if_neg c8] at H
            exact absurd H (by simp)
        · rw [if_neg c7] at H
          exact absurd H (by simp)
      · rw [if_neg c6] at H
        exact absurd H (by simp)

end Go.Proofs.Ytpepnlcelllhkaa.QFnExactMeandersOf
