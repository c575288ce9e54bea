/- The law FnComponentsWalked answers true at every pair of byte rows: a drawn pair's curves part its points, the walk along each comes round, and signs tell the count's parity. Conditions: none beyond the form's own. -/
import Derived.Test.YtfencncopkeobaaQFnComponentsWalkedx15
import Derived.Test.YtfencncopkeobaaPureFnComponentsWalkedD
import Derived.Test.YtfencncopkeobaaMyPl
namespace Go.Proofs.Ytfencncopkeobaa.Pure
open Go.RowKit Go.Proofs.Ytfencncopkeobaa.QFnComponentsWalked Go.Proofs.YtfencncopkeobaaW.PrintWords Go.Proofs.YtfencncopkeobaaW.PrintLast
open laws_FnComponentsWalked
set_option linter.unusedVariables false
set_option linter.unusedSimpArgs false
theorem cw_at {n : Nat} (h7 : n < 7) {l m : List Int} (hl : l ∈ Pl.sysList n) (hm : m ∈ Pl.sysList n) : cwOk l m = true := by
 by_cases h6 : n < 6
 ·exact List.all_eq_true.1 (List.all_eq_true.1 (List.all_eq_true.1 cw_tab n (List.mem_range.2 h6)) l hl) m hm
 ·obtain rfl : n = 6 := by omega
  have t := all_chunks (fun l => (Pl.sysList 6).all fun m => cwOk l m) 11 12 (Pl.sysList 6) (by rw [len6]; omega) (fun i hi => by
   match i, hi with
   | 0, _ => exact cw_tab6_0
   | 1, _ => exact cw_tab6_1
   | 2, _ => exact cw_tab6_2
   | 3, _ => exact cw_tab6_3
   | 4, _ => exact cw_tab6_4
   | 5, _ => exact cw_tab6_5
   | 6, _ => exact cw_tab6_6
   | 7, _ => exact cw_tab6_7
   | 8, _ => exact cw_tab6_8
   | 9, _ => exact cw_tab6_9
   | 10, _ => exact cw_tab6_10
   | 11, _ => exact cw_tab6_11)
  exact List.all_eq_true.1 (List.all_eq_true.1 t l hl) m hm
theorem cw_any {l m : List Int} (hp : pairB l m = true) : cwOk l m = true := by
 have hb : sysB l = true ∧ sysB m = true ∧ l.length = m.length := by
  unfold pairB at hp
  rw [Bool.and_eq_true, Bool.and_eq_true, decide_eq_true_eq] at hp
  exact ⟨hp.1.1, hp.1.2, hp.2⟩
 obtain ⟨h7, hml⟩ := sysB_mem hb.1
 obtain ⟨_, hmm⟩ := sysB_mem hb.2.1
 rw [← hb.2.2] at hmm
 exact cw_at h7 hml hmm
theorem curves_pair {l m : List Int} (hp : pairB l m = true) : (∃ K, ∀ k, K ≤ k → spec_CurvesOf.f k l m = some ((grpL (coloursOf l m).1, true))) ∧ (∃ K, ∀ k, K ≤ k → impl_CurvesOf.f k l m = some ((grpL (coloursOf l m).1, true))) ∧ Short 100 (grpL (coloursOf l m).1) ∧ (grpL (coloursOf l m).1).length ≤ 1000 := by
 obtain ⟨K1, h1⟩ := IsPair_any l m (by have := (pairB_two hp).small; omega) (by have := (pairB_two hp).small; have := (pairB_two hp).len; omega)
 obtain ⟨K2, h2⟩ := mePair_any l m (by have := (pairB_two hp).small; omega) (by have := (pairB_two hp).small; have := (pairB_two hp).len; omega)
 rw [hp] at h1 h2
 have ht := pairB_two hp
 have hs := ht.small
 obtain ⟨hu, hcl, hc0, hcn⟩ := coloursOf_hue ht
 obtain ⟨K3, h3⟩ := meColours_any ht
 obtain ⟨K4, h4⟩ := curves_any ht
 have hb : sysB l = true ∧ sysB m = true ∧ l.length = m.length := by
  unfold pairB at hp
  rw [Bool.and_eq_true, Bool.and_eq_true, decide_eq_true_eq] at hp
  exact ⟨hp.1.1, hp.1.2, hp.2⟩
 obtain ⟨h7, hml⟩ := sysB_mem hb.1
 obtain ⟨_, hmm⟩ := sysB_mem hb.2.1
 rw [← hb.2.2] at hmm
 have hrg := rg_of (rg_at h7 hml hmm)
 obtain ⟨n, hn⟩ := Int.eq_ofNat_of_zero_le hc0
 rw [hn] at hrg
 obtain ⟨res, g1, g2, g3, g4⟩ := group_l (coloursOf l m).1 n (by omega) (by omega) (coloursOf l m).1.length 0 [] (by omega) (by simpa using hrg) (fun r h => by cases h)
 have e : grpL (coloursOf l m).1 = res := by
  unfold grpL
  have := g3 14 (by omega)
  rw [show (((0 : Nat) : Int)) = 0 from rfl] at this
  rw [this]; rfl
 rw [e]
 refine ⟨⟨K2 + K3 + (coloursOf l m).1.length + 1, fun k hk => ?_⟩, ⟨K1 + K4 + (coloursOf l m).1.length + 1, fun k hk => ?_⟩, g2, by omega⟩
 ·unfold spec_CurvesOf.f
  rw [h2 k (by omega), Option.bind_some, if_pos rfl, h3 k (by omega), Option.bind_some]
  exact g3 k (by omega)
 ·unfold impl_CurvesOf.f
  rw [h1 k (by omega), Option.bind_some, if_pos rfl, h4 k (by omega), Option.bind_some, if_pos hc0, if_pos (by omega), hn, Int.toNat_natCast]
  have := g4 k (by omega)
  simpa using this
theorem curves_no {l m : List Int} (hp : pairB l m = false) (hl : l.length ≤ 1048576) (hm : m.length ≤ 1048576) : (∃ K, ∀ k, K ≤ k → spec_CurvesOf.f k l m = some (([], false))) ∧ (∃ K, ∀ k, K ≤ k → impl_CurvesOf.f k l m = some (([], false))) := by
 obtain ⟨K1, h1⟩ := IsPair_any l m (by omega) (by omega)
 obtain ⟨K2, h2⟩ := mePair_any l m (by omega) (by omega)
 rw [hp] at h1 h2
 exact ⟨⟨K2, fun k hk => by unfold spec_CurvesOf.f; rw [h2 k hk, Option.bind_some, if_neg (by simp)]⟩, ⟨K1, fun k hk => by unfold impl_CurvesOf.f; rw [h1 k hk, Option.bind_some, if_neg (by simp)]⟩⟩
structure CW (l m : List Int) : Prop where
 pair : pairB l m = true
 cnt : ((grpL (coloursOf l m).1).length : Int) = (coloursOf l m).2
 sum : ((grpL (coloursOf l m).1).map List.length).sum = l.length
 row : ∀ k : Nat, k < (grpL (coloursOf l m).1).length → rowOk l m (coloursOf l m).1 (grpL (coloursOf l m).1) k = true
 par : (Int.tmod ((l.length : Int) / 2 - (coloursOf l m).2) 2 == 0) = (sgn l == sgn m)
theorem CW.of {l m : List Int} (hp : pairB l m = true) : CW l m := by
 have t := cw_any hp
 unfold cwOk at t
 simp only [Bool.and_eq_true, decide_eq_true_eq, beq_iff_eq] at t
 exact ⟨hp, t.1.1.1, t.1.1.2, fun k hk => List.all_eq_true.1 t.1.2 k (List.mem_range.2 hk), t.2⟩
theorem rd_L_mem (r : List Int) (i : Nat) (h : i < r.length) : rd r (i : Nat) ∈ r := by rw [rd_get r i h]; exact List.getElem_mem h
theorem l2_any {l m row cs : List Int} {R : List (List Int)} (n : Int) (hp : pairB l m = true) (hcl : cs.length = l.length) (x28 : Int) (kk : Nat) (hK : kk < R.length) (hR : R.length ≤ 1000)
  (r1 : 0 < row.length) (hrl : row.length ≤ 100) (pts : ∀ i : Nat, i < row.length → (0 ≤ rd row (i : Nat) ∧ rd row (i : Nat) < l.length) ∧ rd cs (rd row (i : Nat)) = (kk : Int) ∧ rd cs (rd l (rd row (i : Nat))) = (kk : Int) ∧ rd cs (rd m (rd row (i : Nat))) = (kk : Int))
  (r3 : (wayL l m (rd row 0)).length = row.length) (r4 : kk = 0 ∨ rd (rd_L2 R ((kk : Int) - 1)) 0 < rd row 0 ∧ 0 < (rd_L2 R ((kk : Int) - 1)).length)
  (h1 : (∃ K, ∀ k, K ≤ k → laws_FnComponentsWalked.l1 k R n cs x28 R (R.length : Int) ((kk : Int) + 1) l m = some (true))) (d : Nat) :
  ∀ i : Nat, i + d = row.length → (∃ K, ∀ k, K ≤ k → laws_FnComponentsWalked.l2 k R n cs x28 (kk : Int) row R (R.length : Int) (kk : Int) row (row.length : Int) (i : Int) l m = some (true)) := by
 have ht := pairB_two hp
 have hs := ht.small
 obtain ⟨K1, h1⟩ := h1
 induction d with
 | zero =>
  intro i hd
  have p0 := (pts 0 r1).1
  rw [show (((0 : Nat) : Int)) = 0 from rfl] at p0
  obtain ⟨K2, h2⟩ := implWay_any l m (rd row 0) (by omega) (by have := ht.len; omega)
  have ew : wayR l m (rd row 0) = (wayL l m (rd row 0), true) := if_pos ⟨hp, by omega⟩
  rw [ew] at h2
  refine ev_rs (K1 + K2) fun k hk => ?_
  rw [laws_FnComponentsWalked.l2, if_neg (by omega), if_pos (by omega)]
  refine bindE (h2 k (by omega)) ?_
  try dsimp only
  rw [if_pos rfl, if_pos (by omega)]
  by_cases hz : (kk : Int) > 0
  ·rw [if_pos hz, w64 (x := (kk : Int) - 1) (by omega) (by omega), if_pos (by omega), if_pos (by omega)]
   rcases r4 with r4 | r4
   ·omega
   ·rw [if_pos (by omega), if_neg (by omega), w64 (by omega) (by omega)]
    exact h1 k (by omega)
  ·rw [if_neg hz, w64 (by omega) (by omega)]
   exact h1 k (by omega)
 | succ d ih =>
  intro i hd
  obtain ⟨K2, h2⟩ := ih (i + 1) (by omega)
  obtain ⟨p0, p1, p2, p3⟩ := pts i (by omega)
  have t0 := ht.top.lo _ p0.1 p0.2
  have t1 := ht.top.hi _ p0.1 p0.2
  have b0 := ht.bot.lo _ p0.1 p0.2
  have b1 := ht.bot.hi _ p0.1 p0.2
  have hlm := ht.len
  refine ev_rs (K1 + K2) fun k hk => ?_
  have h2 := h2 k (by omega)
  rw [show (((i + 1 : Nat)) : Int) = (i : Int) + 1 by omega] at h2
  rw [laws_FnComponentsWalked.l2, if_pos (by omega), if_pos (by omega), if_pos (by omega), if_pos p0.1, if_pos (by omega), if_pos p1, if_pos (by omega), if_pos t0, if_pos (by omega), if_pos p2, if_pos (by omega), if_pos b0, if_pos (by omega), if_pos p3, w64 (by omega) (by omega)]
  exact h2
theorem sum_le : ∀ (L : List Nat), ∀ x ∈ L, x ≤ L.sum
 | [], x, h => by cases h
 | a :: L, x, h => by
  rw [List.sum_cons]
  rcases List.mem_cons.1 h with rfl | h
  ·omega
  ·have := sum_le L x h; omega
theorem sum_drop (R : List (List Int)) (i : Nat) (h : i < R.length) : ((R.drop i).map List.length).sum = (rd_L2 R (i : Int)).length + ((R.drop (i + 1)).map List.length).sum := by
 rw [List.drop_eq_getElem_cons h, List.map_cons, List.sum_cons, L1_get R i h]
theorem l1_any {l m : List Int} (h : CW l m) (d : Nat) : ∀ (i : Nat) (x28 : Int), i + d = (grpL (coloursOf l m).1).length → 0 ≤ x28 → x28 + (((grpL (coloursOf l m).1).drop i).map List.length).sum = l.length →
  (∃ K, ∀ k, K ≤ k → laws_FnComponentsWalked.l1 k (grpL (coloursOf l m).1) (coloursOf l m).2 (coloursOf l m).1 x28 (grpL (coloursOf l m).1) ((grpL (coloursOf l m).1).length : Int) (i : Int) l m = some (true)) := by
 have ht := pairB_two h.pair
 have hs := ht.small
 have hlm := ht.len
 have hb : sysB l = true ∧ sysB m = true := by
  have hp := h.pair
  unfold pairB at hp
  rw [Bool.and_eq_true, Bool.and_eq_true] at hp
  exact ⟨hp.1.1, hp.1.2⟩
 obtain ⟨hu, hcl, hc0, hcn⟩ := coloursOf_hue ht
 induction d with
 | zero =>
  intro i x28 hi hx hsum
  obtain ⟨K1, h1⟩ := implSign_any l (by omega)
  obtain ⟨K2, h2⟩ := implSign_any m (by omega)
  obtain ⟨K3, h3⟩ := implIsMe_any l m (by omega) (by omega)
  rw [show signR l = (sgn l, true) from if_pos hb.1] at h1
  rw [show signR m = (sgn m, true) from if_pos hb.2] at h2
  rw [show isMeR l m = ((coloursOf l m).2 == 1, true) from if_pos h.pair] at h3
  rw [List.drop_eq_nil_of_le (by omega)] at hsum
  simp only [List.map_nil, List.sum_nil] at hsum
  refine ev_rs (K1 + K2 + K3) fun k hk => ?_
  rw [laws_FnComponentsWalked.l1, if_neg (by omega)]
  refine bindE (h1 k (by omega)) ?_
  try dsimp only
  refine bindE (h2 k (by omega)) ?_
  try dsimp only
  refine bindE (h3 k (by omega)) ?_
  try dsimp only
  have hpar := h.par
  rw [if_pos rfl, if_pos rfl, if_pos rfl, if_pos (by omega), if_pos h.cnt, w64 (x := (l.length : Int) / 2) (by omega) (by omega), w64 (x := (l.length : Int) / 2 - (coloursOf l m).2) (by omega) (by omega), hpar, if_pos (by simp)]
  simp
 | succ d ih =>
  intro i x28 hi hx hsum
  rw [sum_drop _ i (by omega)] at hsum
  have hr := h.row i (by omega)
  obtain ⟨_, _, hsh, hRl⟩ := curves_pair h.pair
  have hrl := hsh.at i (by omega)
  unfold rowOk at hr
  simp only [Bool.and_eq_true, Bool.or_eq_true, decide_eq_true_eq] at hr
  obtain ⟨⟨⟨r1, r2⟩, r3⟩, r4⟩ := hr
  have r2 := List.all_eq_true.1 r2
  have e := ih (i + 1) (x28 + (rd_L2 (grpL (coloursOf l m).1) (i : Int)).length) (by omega) (by omega) (by push_cast at *; omega)
  rw [show (((i + 1 : Nat)) : Int) = (i : Int) + 1 by omega] at e
  obtain ⟨K1, h1⟩ := l2_any (coloursOf l m).2 h.pair hcl (x28 + (rd_L2 (grpL (coloursOf l m).1) (i : Int)).length) i (by omega) hRl r1 hrl (fun j hj => by
   have := r2 _ (rd_L_mem _ j hj)
   simp only [Bool.and_eq_true, decide_eq_true_eq, beq_iff_eq] at this
   exact ⟨this.1.1.1, this.1.1.2, this.1.2, this.2⟩) r3 r4 e (rd_L2 (grpL (coloursOf l m).1) (i : Int)).length 0 (by omega)
  refine ev_rs K1 fun k hk => ?_
  rw [laws_FnComponentsWalked.l1, if_pos (by omega), if_pos (by omega), if_pos (by omega), w64 (by omega) (by omega)]
  exact h1 k hk
theorem j5_any {l m : List Int} (R : List (List Int)) (f : Bool) (n : Int) (cs : List Int) (h : f = true → CW l m ∧ R = grpL (coloursOf l m).1 ∧ n = (coloursOf l m).2 ∧ cs = (coloursOf l m).1) : (∃ K, ∀ k, K ≤ k → j5 k R f n cs false l m = some (true)) := by
 cases f with
 | false => exact ev_rs 0 fun k _ => by rw [j5, if_neg (by decide), if_neg (by decide)]
 | true =>
  obtain ⟨h1, rfl, rfl, rfl⟩ := h rfl
  obtain ⟨K, hK⟩ := l1_any h1 (grpL (coloursOf l m).1).length 0 0 (by omega) (by omega) (by rw [List.drop_zero, h1.sum]; omega)
  refine ev_rs K fun k hk => ?_
  rw [j5, if_neg (by decide), if_pos rfl]
  exact hK k hk
theorem j4_any {c1 : List Int} (hc1 : Bys c1) {l m : List Int} (R : List (List Int)) (f : Bool) (n : Int) (cs : List Int) (h : f = true → CW l m ∧ R = grpL (coloursOf l m).1 ∧ n = (coloursOf l m).2 ∧ cs = (coloursOf l m).1) : (∃ K, ∀ k, K ≤ k → j4 k c1 R f n cs l m = some (true)) := by
 obtain ⟨q, ⟨K1, h1⟩, hq⟩ := drawSign_any hc1
 obtain ⟨K2, h2⟩ := implSign_any q (by omega)
 obtain ⟨K3, h3⟩ := specSign_any q (by omega)
 obtain ⟨K5, h5⟩ := j5_any R f n cs h
 refine ev_rs (K1 + K2 + K3 + K5) fun k hk => ?_
 rw [j4]
 refine bindE (h1 k (by omega)) ?_
 try dsimp only
 refine bindE (h2 k (by omega)) ?_
 try dsimp only
 refine bindE (h3 k (by omega)) ?_
 try dsimp only
 rw [if_neg (by simp), show ((signR q).1 != (signR q).1) = false by simp]
 exact h5 k (by omega)
theorem l0_any {c1 : List Int} {l m T B : List Int} (R : List (List Int)) (f : Bool) (n : Int) (cs w : List Int) (hT : Two T B) {a : Int} (hw : Round (rd T) (rd B) a w) (hin : ∀ x ∈ w, 0 ≤ x ∧ x < T.length) (hwl : w.length ≤ 24)
  (h4 : (∃ K, ∀ k, K ≤ k → j4 k c1 R f n cs l m = some (true))) (d : Nat) : ∀ i : Nat, i % 2 = 0 → w.length - i ≤ d → (∃ K, ∀ k, K ≤ k → laws_FnComponentsWalked.l0 k c1 R f n cs w (i : Int) l m T B = some (true)) := by
 obtain ⟨K4, h4⟩ := h4
 have he := hw.even
 have hlm := hT.len
 have hpos := hw.pos
 induction d with
 | zero =>
  intro i h0 hd
  refine ev_rs K4 fun k hk => ?_
  rw [laws_FnComponentsWalked.l0, if_neg (by omega)]
  exact h4 k hk
 | succ d ih =>
  intro i h0 hd
  by_cases hlt : i < w.length
  ·obtain ⟨K, ih⟩ := ih (i + 2) (by omega) (by omega)
   have p0 := hin _ (rd_L_mem w i hlt)
   have p1 := hin _ (rd_L_mem w (i + 1) (by omega))
   have e1 := hw.top i h0 (by omega)
   have e2 := hw.bot i h0 (by omega)
   rw [show (((i + 1 : Nat)) : Int) = (i : Int) + 1 by omega] at p1 e1 e2
   have em : Int.tmod ((i : Int) + 2) (w.length : Int) = (((i + 2) % w.length : Nat) : Int) := by
    rw [Int.tmod_eq_emod_of_nonneg (by omega)]; rw [show ((i : Int) + 2) = ((i + 2 : Nat) : Int) by omega]; exact (Int.natCast_emod _ _).symm
   have hmlt := Nat.mod_lt (i + 2) hpos
   refine ev_rs K fun k hk => ?_
   have ih := ih k hk
   rw [show (((i + 2 : Nat)) : Int) = (i : Int) + 2 by omega] at ih
   rw [laws_FnComponentsWalked.l0, w64 (x := (i : Int) + 1) (by omega) (by omega), w64 (x := (i : Int) + 2) (by omega) (by omega), em, if_pos (by omega), if_pos (by omega), if_pos p0.1, if_pos (by omega), if_pos (by omega), if_pos (by omega), if_pos e1.symm, if_pos p1.1, if_pos (by omega), if_neg (by omega), if_pos (by omega), if_pos (by omega), if_pos e2.symm]
   exact ih
  ·refine ev_rs K4 fun k hk => ?_
   rw [laws_FnComponentsWalked.l0, if_neg (by omega)]
   exact h4 k hk
theorem j0_any {c1 : List Int} (hc1 : Bys c1) {l m : List Int} (R : List (List Int)) (f : Bool) (n : Int) (cs : List Int) (h : f = true → CW l m ∧ R = grpL (coloursOf l m).1 ∧ n = (coloursOf l m).2 ∧ cs = (coloursOf l m).1) : (∃ K, ∀ k, K ≤ k → j0 k c1 R f n cs false l m = some (true)) := by
 obtain ⟨T, B, a, ⟨K1, h1⟩, hT, hB⟩ := drawWay_any hc1
 obtain ⟨K2, h2⟩ := implWay_any T B a (by omega) (by omega)
 obtain ⟨K3, h3⟩ := specWay2_any T B a (by omega) (by omega)
 have hl := wayR_length T B a
 obtain ⟨K4, h4⟩ := sSame_any (wayR T B a).1 (by omega)
 have hj4 := j4_any hc1 R f n cs h
 by_cases c : pairB T B = true ∧ (0 ≤ a ∧ a ≤ (T.length : Int) - 1)
 ·have e : wayR T B a = (wayL T B a, true) := if_pos c
  rw [e] at h2 h3 h4 hl
  have ht := pairB_two c.1
  have hr := wayL_round ht c.2.1 (by omega)
  have hin := (wayL_in ht c.2.1 (by omega)).1
  obtain ⟨K5, h5⟩ := l0_any R f n cs (wayL T B a) ht hr hin hl hj4 (wayL T B a).length 0 (by omega) (by omega)
  have hev := hr.even
  have hps := hr.pos
  refine ⟨K1 + K2 + K3 + K4 + K5 + 3, fun k hk => ?_⟩
  obtain ⟨q, rfl⟩ : ∃ q, k = q + 3 := ⟨k - 3, by omega⟩
  rw [j0, if_neg (by decide)]
  refine bindE (h1 _ (by omega)) ?_
  try dsimp only
  refine bindE (h2 _ (by omega)) ?_
  try dsimp only
  refine bindE (h3 _ (by omega)) ?_
  try dsimp only
  rw [if_neg (by decide)]
  refine bindE (h4 _ (by omega)) ?_
  have ep : ((((wayL T B a).length : Int) % 2) == 1) = false := beq_eq_false_iff_ne.mpr (by omega)
  rw [j1, if_neg (by decide), if_pos rfl, if_pos (by omega), if_pos hr.head, ep, j2, if_neg (by decide)]
  exact h5 _ (by omega)
 ·have e : wayR T B a = ([], false) := if_neg c
  rw [e] at h2 h3 h4
  obtain ⟨K5, h5⟩ := hj4
  refine ⟨K1 + K2 + K3 + K4 + K5 + 2, fun k hk => ?_⟩
  obtain ⟨q, rfl⟩ : ∃ q, k = q + 2 := ⟨k - 2, by omega⟩
  rw [j0, if_neg (by decide)]
  refine bindE (h1 _ (by omega)) ?_
  try dsimp only
  refine bindE (h2 _ (by omega)) ?_
  try dsimp only
  refine bindE (h3 _ (by omega)) ?_
  try dsimp only
  rw [if_neg (by decide)]
  refine bindE (h4 _ (by omega)) ?_
  rw [j1, if_neg (by decide), if_neg (by decide)]
  exact h5 _ (by omega)
theorem FnComponentsWalked : laws_FnComponentsWalked.Pure := by
 intro l0 l1 _ _ hw0 _ _ hw1
 by_cases hb : l0.length ≤ 1048576 ∧ (l1.length : Int) ≤ 1048576 - l0.length
 ·have hc0 := bys_of hb.1 hw0
  have hc1 := bys_of (c := l1) (by omega) hw1
  have hbig := big_any l0 l1 hb.1 hb.2
  obtain ⟨l, m, ⟨K1, h1⟩, hl, hm⟩ := drawCurves_any hc0
  obtain ⟨K4, h4⟩ := implComp_any l m (by omega) (by omega)
  obtain ⟨K5, h5⟩ := implCurv_any l m (by omega) (by omega)
  obtain ⟨K6, h6⟩ := specCurv_any l m (by omega) (by omega)
  obtain ⟨K7, h7⟩ := IsPair_any l m (by omega) (by omega)
  have hcl := curvR_length l m
  obtain ⟨K8, h8⟩ := sSame_any (curvR l m).1 (by omega)
  cases hp : pairB l m with
  | true =>
   obtain ⟨⟨K2, h2⟩, ⟨K3, h3⟩, hs, hn⟩ := curves_pair hp
   obtain ⟨K9, h9⟩ := sameRows_any _ hs hn
   have e1 : compR l m = ((coloursOf l m).2, true) := if_pos hp
   have e2 : curvR l m = ((coloursOf l m).1, true) := if_pos hp
   rw [e1] at h4
   rw [e2] at h5 h6 h8
   rw [hp] at h7
   obtain ⟨K10, h10⟩ := j0_any hc1 (l := l) (m := m) (grpL (coloursOf l m).1) true (coloursOf l m).2 (coloursOf l m).1 (fun _ => ⟨CW.of hp, rfl, rfl, rfl⟩)
   refine ⟨K1 + K2 + K3 + K4 + K5 + K6 + K7 + K8 + K9 + K10 + 2, ?_⟩
   rw [laws_FnComponentsWalked.f, hbig, Option.bind_some, if_neg (by decide)]
   refine bindE (h1 _ (by omega)) ?_
   try dsimp only
   refine bindE (h3 _ (by omega)) ?_
   try dsimp only
   refine bindE (h2 _ (by omega)) ?_
   try dsimp only
   refine bindE (h4 _ (by omega)) ?_
   try dsimp only
   refine bindE (h5 _ (by omega)) ?_
   try dsimp only
   refine bindE (h6 _ (by omega)) ?_
   try dsimp only
   rw [if_neg (by decide)]
   refine bindE (h9 _ (by omega)) ?_
   try dsimp only
   rw [if_pos rfl, if_neg (by decide), if_neg (by decide)]
   refine bindE (h8 _ (by omega)) ?_
   try dsimp only
   rw [if_pos rfl, if_neg (by decide)]
   refine bindE (h7 _ (by omega)) ?_
   exact h10 _ (by omega)
  | false =>
   obtain ⟨⟨K2, h2⟩, ⟨K3, h3⟩⟩ := curves_no hp (by omega) (by omega)
   obtain ⟨K9, h9⟩ := sameRows_any [] (fun r h => by cases h) (by simp)
   have e1 : compR l m = (0, false) := if_neg (by rw [hp]; decide)
   have e2 : curvR l m = ([], false) := if_neg (by rw [hp]; decide)
   rw [e1] at h4
   rw [e2] at h5 h6 h8
   rw [hp] at h7
   obtain ⟨K10, h10⟩ := j0_any hc1 (l := l) (m := m) [] false 0 [] (fun h => by cases h)
   refine ⟨K1 + K2 + K3 + K4 + K5 + K6 + K7 + K8 + K9 + K10 + 2, ?_⟩
   rw [laws_FnComponentsWalked.f, hbig, Option.bind_some, if_neg (by decide)]
   refine bindE (h1 _ (by omega)) ?_
   try dsimp only
   refine bindE (h3 _ (by omega)) ?_
   try dsimp only
   refine bindE (h2 _ (by omega)) ?_
   try dsimp only
   refine bindE (h4 _ (by omega)) ?_
   try dsimp only
   refine bindE (h5 _ (by omega)) ?_
   try dsimp only
   refine bindE (h6 _ (by omega)) ?_
   try dsimp only
   rw [if_neg (by decide)]
   refine bindE (h9 _ (by omega)) ?_
   try dsimp only
   rw [if_pos rfl, if_neg (by decide), if_neg (by decide)]
   refine bindE (h8 _ (by omega)) ?_
   try dsimp only
   rw [if_pos rfl, if_neg (by decide)]
   refine bindE (h7 _ (by omega)) ?_
   exact h10 _ (by omega)
 ·exact ⟨0, by simp only [laws_FnComponentsWalked.f, big_yes l0 l1 hb, Option.bind_some, if_true]⟩
end Go.Proofs.Ytfencncopkeobaa.Pure
