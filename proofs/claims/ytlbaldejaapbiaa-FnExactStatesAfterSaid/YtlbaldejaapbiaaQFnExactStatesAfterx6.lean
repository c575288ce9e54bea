-- Written by wip/myprint.py (a program of mine round the kit's printer). Lean checks it.
import Derived.Test.YtlbaldejaapbiaaQFnExactStatesAfterx0
import Derived.Test.YtlbaldejaapbiaaQFnExactStatesAfterx5
namespace Go.Proofs.Ytlbaldejaapbiaa.QFnExactStatesAfter
open Go.RowKit Go.Proofs.YtlbaldejaapbiaaW.PrintWords Go.Proofs.YtlbaldejaapbiaaW.PrintLast Go.Proofs.YtlbaldejaapbiaaW.PrintMore
attribute [local go_sem] max2_int min2_int max_two min_two max_three min_three max_four min_four
set_option linter.unusedVariables false
set_option linter.unusedSimpArgs false
set_option maxHeartbeats 8000000
set_option maxRecDepth 100000
theorem run_copy_cells4 {P : Program} (w : World) (dT sT ty elem : TypeId) (b o dLen dCap : Nat) (a : Addr) (sLen sCap : Nat) (cs : List Value)
 (hu : P.underlying dT = some (.slice elem)) (hs : (P.info? elem).map (·.size) = some 4) (hn : cs.length = Nat.min sLen dLen * 4)
 (hsrc : ∀ j v, cs[j]? = some v → w.cell? (a.add j) = some v) (hc : ∀ j, j < cs.length → (w.cell? ⟨b, o + j, none⟩).isSome = true) (hf : ∀ j, j < cs.length → w.frozen? ⟨b, o + j, none⟩ = false) (h1 : ∀ v ∈ cs, v.oneCell' = true) :
 (Builtin.copy_ #[dT, sT] ty #[.slice (some ⟨b, o, none⟩) dLen dCap, .slice (some a) sLen sCap]).run P w = .ok (goInt (Nat.min sLen dLen)) (w.setCells b o cs) := by
 have hl := run_loadCells_list (P := P) w a cs hsrc
 have hst := run_storeCells_cells (P := P) b o cs 0 w (by simpa using hc) (by simpa using hf) h1
 cases hq : P.info? elem with
 | none => simp [hq] at hs
 | some i =>
  have hi : i.size = 4 := by simpa [hq] using hs
  simp [Builtin.copy_, run_underlying hu, Builtin.lenOf, Builtin.firstCells, sizeOf, typeInfo, hq, hi, ← hn, hl, hst]
theorem run_copy_none4 {P : Program} (w : World) (dT sT ty elem : TypeId) (d a : Option Addr) (dLen dCap sLen sCap : Nat) (hu : P.underlying dT = some (.slice elem)) (hs : (P.info? elem).map (·.size) = some 4) (hn : Nat.min sLen dLen = 0) :
 (Builtin.copy_ #[dT, sT] ty #[.slice d dLen dCap, .slice a sLen sCap]).run P w = .ok (goInt 0) w := by
 cases hq : P.info? elem with
 | none => simp [hq] at hs
 | some i =>
  have hl : ∀ (x : Addr), (loadCells x 0).run P w = .ok #[] w := fun x => by simpa using run_loadCells_list (P := P) w x [] (by simp)
  cases d <;> cases a <;> simp [Builtin.copy_, run_underlying hu, Builtin.lenOf, Builtin.firstCells, sizeOf, typeInfo, hq, hn, storeCells, hl]
def shiftL {α : Type} (xs : List α) (low : Nat) : List α := xs.take (low + 1) ++ (xs.drop low).dropLast
theorem shiftL_len {α : Type} (xs : List α) (low : Nat) (h : low < xs.length) : (shiftL xs low).length = xs.length := by simp [shiftL]; omega
theorem shiftL_get {α : Type} (xs : List α) (low : Nat) (h : low < xs.length) (i : Nat) (hi : i < xs.length) : (shiftL xs low)[i]? = xs[if i ≤ low then i else i - 1]? := by
 unfold shiftL
 by_cases hl : i ≤ low
 ·rw [if_pos hl, List.getElem?_append_left (by simp; omega), List.getElem?_take_of_lt (by omega)]
 ·rw [if_neg hl, List.getElem?_append_right (by simp; omega), List.getElem?_dropLast]
  simp only [List.length_take, List.length_drop, List.getElem?_drop]
  rw [if_pos (by omega)]
  congr 1; omega
def shiftC (cs : List Value) (low n : Nat) : List Value := cs.take ((low + 1) * 4) ++ (cs.drop (low * 4)).take ((n - (low + 1)) * 4)
theorem shiftC_len (cs : List Value) (low n : Nat) (h : low < n) (hc : cs.length = n * 4) : (shiftC cs low n).length = n * 4 := by simp [shiftC]; omega
theorem shiftC_at (cs : List Value) (low n : Nat) (h : low < n) (hc : cs.length = n * 4) (i : Nat) (hi : i < n) : ((shiftC cs low n).drop (i * 4)).take 4 = (cs.drop ((if i ≤ low then i else i - 1) * 4)).take 4 := by
 apply List.ext_getElem?
 intro j
 rcases Nat.lt_or_ge j 4 with hj | hj
 ·rw [List.getElem?_take_of_lt hj, List.getElem?_take_of_lt hj, List.getElem?_drop, List.getElem?_drop]
  unfold shiftC
  by_cases hl : i ≤ low
  ·rw [if_pos hl, List.getElem?_append_left (by simp; omega), List.getElem?_take_of_lt (by omega)]
  ·rw [if_neg hl, List.getElem?_append_right (by simp; omega), List.getElem?_take_of_lt (by simp; omega), List.getElem?_drop]
   congr 1; simp; omega
 ·rw [List.getElem?_eq_none (by simp; omega), List.getElem?_eq_none (by simp; omega)]
theorem reps_shift {R : List Value → List Value → Prop} {rows : List (List Value)} {cs : List Value} (h : Reps R 4 rows cs) (low : Nat) (hl : low < rows.length) : Reps R 4 (shiftL rows low) (shiftC cs low rows.length) := by
 refine ⟨by rw [shiftL_len rows low hl]; exact shiftC_len cs low _ hl h.1, fun i p hp => ?_⟩
 have hi : i < rows.length := by
  have := (List.getElem?_eq_some_iff.1 hp).1
  rwa [shiftL_len rows low hl] at this
 rw [shiftL_get rows low hl i hi] at hp
 rw [shiftC_at cs low _ hl h.1 i hi]
 exact h.2 _ p hp
theorem own_len4 (A : Option Addr) (n m c : Nat) : (Value.slice A n c).ownBlock = (Value.slice A m c).ownBlock := by cases A <;> rfl
open Kd in
theorem N_shift_step {α : Type} (d : Kd α) (hd : d.sz = 4) {P : Program} {ops : Array Oper} {o : Oper} {a : Act} {Q : Exit → Act → World → Prop} {Kc : Act → World → Prop} {w0 W : World} (base : Nat) (hw : Region.wanted o (yielded ops a.tmps) = true) (s x : Operand) (t e : TypeId)
 (ho : o.op = .call { callee := .builtin .copy, args := #[s, x], argTypes := #[t, t] }) (ht : P.underlying t = some (.slice e)) (hinfo : (P.info? e).map (·.size) = some 4)
 (A As Ax : Option Addr) (c cs cx n1 n2 : Nat) (xs : List α) (low lw1 : Nat) (ok : Nat → Prop) (hs : a.eval s = .slice As n1 cs) (hx : a.eval x = .slice Ax n2 cx) (hlow : low < xs.length) (hlw : lw1 = low + 1)
 (h1 : n1 = xs.length - lw1) (h2 : n2 = xs.length - low) (hAs : As = if c = lw1 then A else A.map (·.add (lw1 * 4))) (hAx : Ax = if c = low then A else A.map (·.add (low * 4)))
 (HO : N d e W base ok (.slice A xs.length c) xs) (HB : Below base w0 W) (hbase : base ≤ W.heap.size)
 (h : ∀ v1 w1, N d e w1 base ok v1 (shiftL xs low) → Below base w0 w1 → W.grownBy w1 (Value.slice A xs.length c).ownBlock → (v1.ownBlock = (Value.slice A xs.length c).ownBlock ∨ ∃ b, v1.ownBlock = some b ∧ W.heap.size ≤ b) → v1 = .slice A (shiftL xs low).length c → Kc (a.put o.dst (.int .i64 ((n1 : Nat) : Int))) w1) :
 if Region.wanted o (yielded ops a.tmps) = true then Oper.wp P o a W Kc Q else Kc (a.put o.dst undef) W := by
 subst hlw
 have hmin : Nat.min n2 n1 = n1 := by rw [h1, h2]; exact Nat.min_eq_right (by omega)
 have hslen := shiftL_len xs low hlow
 have ex : ∃ w1, (Builtin.copy_ #[t, t] o.type #[.slice As n1 cs, .slice Ax n2 cx]).run P W = .ok (goInt ((n1 : Nat) : Int)) w1 ∧ N d e w1 base ok (.slice A (shiftL xs low).length c) (shiftL xs low) ∧ W.grownBy w1 (Value.slice A xs.length c).ownBlock := by
  obtain ⟨h0, rows, hrl, hR, hf⟩ := HO
  obtain ⟨hok, inner, hown, hreps⟩ := hR
  rw [hd, show (raw 4).sz = 4 from rfl] at hown hreps
  rcases hown.2 with ⟨_, hz⟩ | ⟨g, cap, cur, hv, hb, hh, hnc, hcm, hcs, htake⟩
  ·omega
  injection hv with hA _ hcap
  subst hA
  subst hcap
  have hlr : low < rows.length := by omega
  have hinl : inner.length = rows.length * 4 := hown.1
  have hone : ∀ u ∈ inner, u.oneCell' = true := by
   intro u hu
   obtain ⟨k, hk, hku⟩ := List.mem_iff_getElem.1 hu
   have hj : k / 4 < rows.length := by omega
   have hr := hreps.2 (k / 4) _ (List.getElem?_eq_getElem hj)
   refine hr.2.2 u ?_
   refine List.mem_iff_getElem?.2 ⟨k % 4, ?_⟩
   rw [List.getElem?_take_of_lt (Nat.mod_lt _ (by decide)), List.getElem?_drop, show k / 4 * 4 + k % 4 = k by omega, List.getElem?_eq_getElem hk, hku]
  have hcur : ∀ k, k < inner.length → cur.toList[k]? = inner[k]? := fun k hk => by rw [← htake, List.getElem?_take_of_lt (by rw [hinl] at hk; exact hk)]
  have mk : ∀ (w1 : World) (cur' : Array Value), w1.heap[g]? = some (.cells cur' e (0, 0)) → cur'.size = cur.size → cur'.toList.take (rows.length * 4) = shiftC inner low rows.length → (∀ k, k ≠ g → w1.heap[k]? = W.heap[k]?) → N d e w1 base ok (.slice (some ⟨g, 0, none⟩) (shiftL xs low).length c) (shiftL xs low) := by
   intro w1 cur' e1 e2 e3 e4
   have hsl : (shiftL rows low).length = rows.length := shiftL_len rows low hlr
   refine ⟨fun k hk => h0 k (by simpa [Value.ownBlock] using hk), shiftL rows low, by rw [hsl, hslen, hrl], ?_, fun j y cc hy hcc => ?_⟩
   ·rw [hd]
    refine ⟨fun k hk => hk.symm, shiftC inner low rows.length, ⟨by rw [shiftC_len inner low _ hlr hinl, hsl]; rfl, .inr ⟨g, c, cur', by rw [hslen, hsl, hrl], hb, e1, by rw [hsl]; exact hnc, hcm, by rw [e2, hcs]; rfl, by rw [hsl]; exact e3⟩⟩, reps_shift hreps low hlr⟩
   ·have hj : j < xs.length := by
     have := (List.getElem?_eq_some_iff.1 hy).1
     rwa [hslen] at this
    rw [shiftL_get xs low hlow j hj] at hy
    rw [shiftL_get rows low hlr j (by omega)] at hcc
    refine FK_mono (FK_step (hf _ y cc hy hcc) (fun k hk _ => e4 k (fun q => hk.2 (by rw [q]; rfl)))) (fun k hk => ⟨hk.1, hk.2⟩)
  rcases Nat.eq_zero_or_pos n1 with hz | hp
  ·refine ⟨W, ?_, ?_, World.grownBy.refl W _⟩
   ·rw [hz]
    exact run_copy_none4 W t t o.type e As Ax 0 cs n2 cx ht hinfo (Nat.min_eq_right (Nat.zero_le _))
   ·refine mk W cur hh rfl ?_ (fun _ _ => rfl)
    rw [htake]
    unfold shiftC
    rw [show rows.length - (low + 1) = 0 by omega, Nat.zero_mul, List.take_zero, List.append_nil, List.take_of_length_le (by omega)]
  ·have hs1 : As = some ⟨g, (low + 1) * 4, none⟩ := by rw [hAs, if_neg (by omega)]; simp [Addr.add]
   have hx1 : Ax = some ⟨g, low * 4, none⟩ := by rw [hAx, if_neg (by omega)]; simp [Addr.add] <;> omega
   have hsegl : ((inner.drop (low * 4)).take (n1 * 4)).length = n1 * 4 := by simp; omega
   have hcell : ∀ k, W.cell? ⟨g, k, none⟩ = cur[k]? := fun k => cell_of_row W g k cur e (0, 0) hh
   have hr := run_copy_cells4 (P := P) W t t o.type e g ((low + 1) * 4) n1 cs ⟨g, low * 4, none⟩ n2 cx ((inner.drop (low * 4)).take (n1 * 4)) ht hinfo (by rw [hsegl, hmin])
    (fun j u hu => by
     have hj : j < n1 * 4 := by have := (List.getElem?_eq_some_iff.1 hu).1; rwa [hsegl] at this
     rw [List.getElem?_take_of_lt hj, List.getElem?_drop] at hu
     rw [show (⟨g, low * 4, none⟩ : Addr).add j = ⟨g, low * 4 + j, none⟩ by simp [Addr.add], hcell, ← Array.getElem?_toList, hcur _ (by omega)]; exact hu)
    (fun j hj => by rw [hsegl] at hj; rw [hcell]; simp; omega) (fun j _ => blk_frozen hh _)
    (fun u hu => hone u (List.mem_of_mem_drop (List.mem_of_mem_take hu)))
   rw [hmin] at hr
   obtain ⟨cur', h3, h4, h5⟩ := setCells_row ((inner.drop (low * 4)).take (n1 * 4)) ((low + 1) * 4) W cur hh (by rw [hsegl]; omega)
   obtain ⟨s1, s2, s3, s4⟩ := setCells_same g ((inner.drop (low * 4)).take (n1 * 4)) ((low + 1) * 4) W
   refine ⟨_, by rw [hs1, hx1]; exact hr, mk _ cur' h3 h4 ?_ (fun k hk => setCells_far _ _ k hk), ⟨s1, s2, s3, by rw [s4]; exact Nat.le_refl _, fun k _ hk => setCells_far _ _ k (fun he => hk (by rw [he]; rfl))⟩⟩
   rw [h5, hsegl, show (low + 1) * 4 + n1 * 4 = rows.length * 4 by omega]
   unfold shiftC
   rw [show rows.length - (low + 1) = n1 by omega, List.take_append_of_le_length (by simp [hsegl]; omega), List.take_of_length_le (by simp [hsegl]; omega)]
   congr 1
   rw [← htake, List.take_take, Nat.min_eq_left (by omega)]
 obtain ⟨w1, hr, hN, hg⟩ := ex
 rw [if_pos hw]
 unfold Oper.wp execOp
 simp only [ho, resolve, invoke, builtin, Sem.run_bind, Sem.run_pure, Result.andThen_ok, List.map_toArray, List.map_cons, List.map_nil, hs, hx, hr]
 exact h _ _ hN (HB.grown hg hbase (N_base HO)) hg (.inl (own_len4 _ _ _ _)) rfl
structure BXG (w : World) (v0 : Value) (W : World) (v : Value) : Prop where
 size : w.heap.size ≤ W.heap.size
 at_ : v.ownBlock = v0.ownBlock ∨ ∃ b, v.ownBlock = some b ∧ w.heap.size ≤ b
 blk : ∀ g, g < w.heap.size → some g ≠ v0.ownBlock → W.heap[g]? = w.heap[g]?
theorem BX_refl (w : World) (v : Value) : BXG w v w v := ⟨Nat.le_refl _, .inl rfl, fun _ _ _ => rfl⟩
theorem BX_below {w W W1 : World} {v0 v : Value} (h : BXG w v0 W v) (hb : Below W.heap.size W W1) : BXG w v0 W1 v := ⟨Nat.le_trans h.size hb.size, h.at_, fun g hg hn => (hb.block g (Nat.lt_of_lt_of_le hg h.size)).trans (h.blk g hg hn)⟩
theorem BX_drew {w W : World} {v0 v : Value} (h : BXG w v0 W v) : BXG w v0 W.drew v := BX_below h (below_drew (Below.refl _ _))
theorem BX_drewN {w W : World} {v0 v : Value} (h : BXG w v0 W v) (n : Nat) : BXG w v0 (W.drewN n) v := BX_below h (pw_below_drewN (Below.refl _ _) n)
theorem BX_alloc {w W : World} {v0 v : Value} (h : BXG w v0 W v) (o : Obj) : BXG w v0 (W.alloc o) v := BX_below h (below_alloc (Below.refl _ _) o)
theorem BX_grown {w W W1 : World} {v0 v v1 : Value} (h : BXG w v0 W v) (hg : W.grownBy W1 v.ownBlock) (hat : v1.ownBlock = v.ownBlock ∨ ∃ b, v1.ownBlock = some b ∧ W.heap.size ≤ b) : BXG w v0 W1 v1 := by
 refine ⟨Nat.le_trans h.size hg.size, ?_, fun g hlt hn => (hg.block g (Nat.lt_of_lt_of_le hlt h.size) (fun e => ?_)).trans (h.blk g hlt hn)⟩
 ·rcases hat with hat | ⟨b, hb, hle⟩
  ·rw [hat]; exact h.at_
  ·exact .inr ⟨b, hb, Nat.le_trans h.size hle⟩
 ·rcases h.at_ with q | ⟨b, hb, hle⟩
  ·exact hn (e.trans q)
  ·rw [hb] at e; injection e with e; omega
theorem BX_same {w W W1 : World} {v0 v : Value} (h : BXG w v0 W v) (hg : W.grownBy W1 v.ownBlock) : BXG w v0 W1 v := BX_grown h hg (.inl rfl)
def spec_stPut.l0 : Nat → List (S83) → Int → Int → Int → List Int → List Int → Int → Option ((List (S83)))
 | 0, _, _, _, _, _, _, _ => none
 | k + 1, x0, x2, x7, x8, x250000, x250001, x250002 => if x7 < x8 then (if 0 ≤ (wrap64 (Int.tdiv (wrap64 (x7 + x8)) 2)) then (if (wrap64 (Int.tdiv (wrap64 (x7 + x8)) 2)) < (x0.length : Int) then ((spec_stLess.f k ((rd_T83 x0 (wrap64 (Int.tdiv (wrap64 (x7 + x8)) 2))).f0.f0) ((rd_T83 x0 (wrap64 (Int.tdiv (wrap64 (x7 + x8)) 2))).f0.f1) ((rd_T83 x0 (wrap64 (Int.tdiv (wrap64 (x7 + x8)) 2))).f0.f2) x250000 x250001 x250002).bind fun t254 => (if t254 = true then (spec_stPut.l0 k x0 x2 (wrap64 ((wrap64 (Int.tdiv (wrap64 (x7 + x8)) 2)) + 1)) x8 x250000 x250001 x250002) else (spec_stPut.l0 k x0 x2 x7 (wrap64 (Int.tdiv (wrap64 (x7 + x8)) 2)) x250000 x250001 x250002))) else (none)) else (none)) else (if x7 < (x0.length : Int) then (if 0 ≤ x7 then ((spec_stLess.f k x250000 x250001 x250002 ((rd_T83 x0 x7).f0.f0) ((rd_T83 x0 x7).f0.f1) ((rd_T83 x0 x7).f0.f2)).bind fun t256 => (if t256 = true then (if x0.length < 2199023255552 then ((some (x0 ++ [(⟨(⟨([] : List Int), ([] : List Int), 0⟩ : S27), 0⟩ : S83)] : List (S83))).bind fun y257 => (if 0 ≤ (wrap64 (x7 + 1)) then (if (wrap64 (x7 + 1)) ≤ (y257.length : Int) then (if x7 ≤ (y257.length : Int) then (if y257.length < 2199023255552 then ((some (shiftL y257 (x7 : Int).toNat : List (S83))).bind fun y270 => (if x7 < (y270.length : Int) then (some (y270.set (x7 : Int).toNat (⟨(⟨x250000, x250001, x250002⟩ : S27), x2⟩ : S83))) else (none))) else (none)) else (none)) else (none)) else (none))) else (none)) else (some (x0.set (x7 : Int).toNat (⟨(⟨(rd_T83 x0 x7).f0.f0, (rd_T83 x0 x7).f0.f1, (rd_T83 x0 x7).f0.f2⟩ : S27), wrap64 (((rd_T83 x0 x7).f1) + x2)⟩ : S83))))) else (none)) else (if x0.length < 2199023255552 then ((some (x0 ++ [(⟨(⟨([] : List Int), ([] : List Int), 0⟩ : S27), 0⟩ : S83)] : List (S83))).bind fun y276 => (if 0 ≤ (wrap64 (x7 + 1)) then (if (wrap64 (x7 + 1)) ≤ (y276.length : Int) then (if 0 ≤ x7 then (if x7 ≤ (y276.length : Int) then (if y276.length < 2199023255552 then ((some (shiftL y276 (x7 : Int).toNat : List (S83))).bind fun y289 => (if x7 < (y289.length : Int) then (some (y289.set (x7 : Int).toNat (⟨(⟨x250000, x250001, x250002⟩ : S27), x2⟩ : S83))) else (none))) else (none)) else (none)) else (none)) else (none)) else (none))) else (none)))
def spec_stPut.f (k : Nat) (t250 : List S83) (l1_0 : List Int) (l1_1 : List Int) (a1_2 : Int) (a2 : Int) : Option ((List (S83))) := (spec_stPut.l0 k t250 a2 0 (t250.length : Int) l1_0 l1_1 a1_2)
theorem spec_stPut.mono_l : ∀ k, (∀ y0 y1 y2 y3 y4 y5 y6, LeO (spec_stPut.l0 k y0 y1 y2 y3 y4 y5 y6) (spec_stPut.l0 (k + 1) y0 y1 y2 y3 y4 y5 y6))
 | 0 => fun _ _ _ _ _ _ _ r h => by simp [spec_stPut.l0] at h
 | k + 1 => by
  have ih0 := spec_stPut.mono_l k
  ·intro y0 y1 y2 y3 y4 y5 y6
   unfold spec_stPut.l0
   repeat' first
    | (with_reducible first | exact ih0 _ _ _ _ _ _ _ | exact spec_stLess.mono _ _ _ _ _ _ _ | exact LeO.refl _ | exact LeO.none _ | refine LeO.ite ?_ ?_ | refine LeO.bind ?_ (fun _ => ?_))
    | exact LeO.none _
    | refine LeO.ite ?_ ?_
    | refine LeO.bind ?_ (fun _ => ?_)
theorem spec_stPut.mono : ∀ xs a0 a1 a2 a3 k, LeO (spec_stPut.f k xs a0 a1 a2 a3) (spec_stPut.f (k + 1) xs a0 a1 a2 a3) := by
 intro xs a0 a1 a2 a3 k
 unfold spec_stPut.f
 exact spec_stPut.mono_l k _ _ _ _ _ _ _
def spec_stPut.T7 : Bool × List (List Nat × List Nat) := (true, [([], []), ([], []), ([1], [1]), ([0, 2], [0, 2]), ([3], [3]), ([4], [4]), ([4], [4]), ([4], [4]), ([6, 7, 4], [4, 6, 7]), ([8, 4], [4, 8]), ([9, 4], [4, 9]), ([5, 10, 4, 4], [4, 5, 10]), ([11, 4], [4, 11]), ([4, 12], [4, 12])])
def spec_stPut.B7 : List Nat := [0, 0, 2, 7, 15, 31, 31, 31, 223, 479, 991, 2047, 4095, 8191]
theorem spec_stPut.tab7 : rtab .any (opsOf Try.f81 7) = spec_stPut.T7 := by kernel_rfl
theorem spec_stPut.bits7 : waitsOk spec_stPut.T7.2 spec_stPut.B7 = true := by kernel_rfl
def spec_stPut.T11 : Bool × List (List Nat × List Nat) := (true, [([], []), ([], []), ([1], [1]), ([0, 2], [0, 2]), ([], []), ([], []), ([4, 5], [4, 5]), ([3, 6], [3, 6])])
def spec_stPut.B11 : List Nat := [0, 0, 2, 7, 0, 0, 48, 127]
theorem spec_stPut.tab11 : rtab .any (opsOf Try.f81 11) = spec_stPut.T11 := by kernel_rfl
theorem spec_stPut.bits11 : waitsOk spec_stPut.T11.2 spec_stPut.B11 = true := by kernel_rfl
theorem spec_stPut.calls (k : Nat) (A0 : Option Addr) (c0 : Nat) (t250 : List S83) (P1_0_ : Nat → Prop) (A1_0 : Option Addr) (c1_0 : Nat) (l1_0 : List Int) (P1_1_ : Nat → Prop) (A1_1 : Option Addr) (c1_1 : Nat) (l1_1 : List Int) (a1_2 : Int) (a2 : Int) (r : List (S83)) (w0 w : World) (hB : Below w0.heap.size w0 w) (hl : Kd.N k83 83 w w0.heap.size (fun k_ => ((P1_0_ k_ ∨ P1_1_ k_) ∨ w.heap.size ≤ k_)) (.slice A0 t250.length c0 : Value) t250) (hs1_0 : Kd.V (Kd.int .i64) 3 w w0.heap.size (fun k_ => P1_0_ k_ ∧ some k_ ≠ (.slice A0 t250.length c0 : Value).ownBlock) (.slice A1_0 l1_0.length c1_0) l1_0) (hs1_1 : Kd.V (Kd.int .i64) 3 w w0.heap.size (fun k_ => P1_1_ k_ ∧ some k_ ≠ (.slice A0 t250.length c0 : Value).ownBlock) (.slice A1_1 l1_1.length c1_1) l1_1) (h : spec_stPut.f k t250 l1_0 l1_1 a1_2 a2 = some r) :
 Calls Try.prog 81 #[.slice A0 t250.length c0, .agg #[.slice A1_0 l1_0.length c1_0, .slice A1_1 l1_1.length c1_1, .int .i64 a1_2], .int .i64 a2] w fun e w' => ∃ v0_ : Value, e = .returned (v0_) ∧ Kd.N k83 83 w' w0.heap.size (fun k_ => ((P1_0_ k_ ∨ P1_1_ k_) ∨ w.heap.size ≤ k_)) v0_ r ∧ Below w0.heap.size w0 w' ∧ BXG w (.slice A0 t250.length c0 : Value) w' v0_ := by
 have hu27 := Try.underlying27
 have hu83 := Try.underlying83
 have HO1_0 := am (show Kd.V (Kd.int .i64) 3 w w0.heap.size (fun k_ => ((P1_0_ k_ ∨ P1_1_ k_) ∨ w.heap.size ≤ k_) ∧ some k_ ≠ (.slice A0 t250.length c0 : Value).ownBlock) (.slice A1_0 l1_0.length c1_0) l1_0 from Kd.V_mono hs1_0 (fun k_ hk => ⟨.inl (.inl hk.1), hk.2⟩))
 have HO1_1 := am (show Kd.V (Kd.int .i64) 3 w w0.heap.size (fun k_ => ((P1_0_ k_ ∨ P1_1_ k_) ∨ w.heap.size ≤ k_) ∧ some k_ ≠ (.slice A0 t250.length c0 : Value).ownBlock) (.slice A1_1 l1_1.length c1_1) l1_1 from Kd.V_mono hs1_1 (fun k_ hk => ⟨.inl (.inr hk.1), hk.2⟩))
 have HLI := am hl
 have HB := am hB
 have H' : Aside0 (spec_stPut.l0 k t250 a2 0 (t250.length : Int) l1_0 l1_1 a1_2 = some r) := am h
 clear h hl hB hs1_0 hs1_1
 go_enter Try.func81, Try.ntmps81
 go_wp2_with (first | ((with_reducible refine gate_dst (N := 4) rfl ?_); refine box_event ?hg (N := 4) ?hd (cs := #[.slice A1_0 l1_0.length c1_0, .slice A1_1 l1_1.length c1_1, .int .i64 a1_2]) (t := 27) ?hr ?_; (case hd => rfl); (case hg => rfl); (case hr => first | (go_simp; done) | (go_simp; rfl)); intro gb249 hg w5 hbox hb; have n0_ := am (Kd.V_below (Kd.V_elderB (by (with_reducible repeat (first | apply vA | apply vN | apply vD)); exact HO1_0.out) gb249 (Nat.le_of_eq hg.symm)) hb); have n1_ := am (Kd.V_below (Kd.V_elderB (by (with_reducible repeat (first | apply vA | apply vN | apply vD)); exact HO1_1.out) gb249 (Nat.le_of_eq hg.symm)) hb); have n2_ := am (below_step (by repeat (with_reducible first | exact HB.out | apply bA | apply bN | apply bD)) hb); have nBX_ := am (BX_below (BX_refl _ (.slice A0 t250.length c0)) hb); have n3_ := am (hbox); have n4_ := am ((by rw [hg]; exact (below_size (by repeat (with_reducible first | exact HB.out | apply bA | apply bN | apply bD))) : w0.heap.size ≤ gb249)); have n5_ := am ((by rw [hg]; exact (below_size (by repeat (with_reducible first | exact HB.out | apply bA | apply bN | apply bD))) : w0.heap.size ≤ gb249)); have nl_ := am (Kd.N_below (Kd.N_elderB HLI.out gb249 (Nat.le_of_eq hg.symm)) hb); clear HO1_0; clear HO1_1; clear HB; clear HLI; have HO1_0 := n0_; have HO1_1 := n1_; have HB := n2_; have BK249 := n3_; have BX := nBX_; clear nBX_; have GW249 := n4_; have GE249 := n5_; have HO252 := nl_; clear n0_ n1_ n2_ n3_ n4_ n5_ nl_; clear hb hbox hg))
 go_loopg [7, 8] k (fun kq v7 v8 w' => ∃ (x7_1 : Int) (x8_1 : Int), v7 = .int .i64 x7_1 ∧ v8 = .int .i64 x8_1 ∧ Aside0 (spec_stPut.l0 kq t250 a2 x7_1 x8_1 l1_0 l1_1 a1_2 = some r) ∧ Aside0 (kq ≤ k) ∧ Aside0 (Kd.N k83 83 w' w0.heap.size (fun k_ => ((P1_0_ k_ ∨ P1_1_ k_) ∨ w.heap.size ≤ k_) ∧ k_ ≠ gb249) (.slice A0 t250.length c0) t250) ∧ Aside0 (Kd.V (Kd.int .i64) 3 w' w0.heap.size (fun k_ => ((P1_0_ k_ ∨ P1_1_ k_) ∨ w.heap.size ≤ k_) ∧ some k_ ≠ ((.slice A0 t250.length c0) : Value).ownBlock ∧ k_ ≠ gb249) (.slice A1_0 l1_0.length c1_0) l1_0) ∧ Aside0 (Kd.V (Kd.int .i64) 3 w' w0.heap.size (fun k_ => ((P1_0_ k_ ∨ P1_1_ k_) ∨ w.heap.size ≤ k_) ∧ some k_ ≠ ((.slice A0 t250.length c0) : Value).ownBlock ∧ k_ ≠ gb249) (.slice A1_1 l1_1.length c1_1) l1_1) ∧ Aside0 (w'.heap[gb249]? = some (.cells #[(.slice A1_0 l1_0.length c1_0), (.slice A1_1 l1_1.length c1_1), .int .i64 a1_2] 27 (0, 0))) ∧ Aside0 (BXG w (.slice A0 t250.length c0 : Value) w' (.slice A0 t250.length c0 : Value)) ∧ Aside0 (Below w0.heap.size w0 w'))
 case atStart => exact ⟨(0), ((t250.length : Int)), (by first | rfl | (simp; done) | (simp [*]; done)), (by first | rfl | (simp; done) | (simp [*]; done)), H', ⟨Nat.le_refl _⟩, ⟨by (with_reducible repeat (first | apply nA | apply nN | apply nD)); exact HO252.out⟩, ⟨by (with_reducible repeat (first | apply vA | apply vN | apply vD)); exact Kd.V_mono HO1_0.out (fun _ hk => ⟨hk.1.1, ⟨hk.1.2, hk.2⟩⟩)⟩, ⟨by (with_reducible repeat (first | apply vA | apply vN | apply vD)); exact Kd.V_mono HO1_1.out (fun _ hk => ⟨hk.1.1, ⟨hk.1.2, hk.2⟩⟩)⟩, ⟨by (with_reducible repeat (first | apply kB | apply kC | apply kE)); exact BK249.out⟩, ⟨by (with_reducible repeat (first | refine BX_drewN ?_ _ | refine BX_drew ?_ | refine BX_alloc ?_ _)); exact BX.out⟩, ⟨by repeat (with_reducible first | exact HB.out | apply bA | apply bN | apply bD | refine bS ?_ GE249.out)⟩⟩
 case round =>
  clear H'
  try clear p2
  obtain ⟨x7_1, x8_1, rfl, rfl, HA, HK1, HO_0, HO_250000, HO_250001, BK249, BX, HB⟩ := hrel
  cases gk with
  | zero => exact absurd HA.out (by simp [spec_stPut.l0])
  | succ k1 =>
   have H := HA.out
   clear HA
   simp only [spec_stPut.l0] at H
   by_cases c8 : x7_1 < x8_1
   ·rw [if_pos c8] at H
    have c8b0 : decide (x7_1 < x8_1) = true := decide_eq_true c8
    clear c8
    obtain ⟨ji9, hji9⟩ : ∃ j_ : Int, (wrap64 (Int.tdiv (wrap64 (x7_1 + x8_1)) 2)) = j_ := ⟨_, rfl⟩
    replace H : (if 0 ≤ (ji9) then (if (ji9) < (t250.length : Int) then ((spec_stLess.f k1 ((rd_T83 t250 (ji9)).f0.f0) ((rd_T83 t250 (ji9)).f0.f1) ((rd_T83 t250 (ji9)).f0.f2) l1_0 l1_1 a1_2).bind fun t254 => (if t254 = true then (spec_stPut.l0 k1 t250 a2 (wrap64 ((ji9) + 1)) x8_1 l1_0 l1_1 a1_2) else (spec_stPut.l0 k1 t250 a2 x7_1 ji9 l1_0 l1_1 a1_2))) else (none)) else (none)) = some r := by first | (rw [hji9] at H; exact H) | (simp only [hji9] at H ⊢; exact H)
    have hji9w : (IntKind.i64.wrap (Int.tdiv (wrap64 (x7_1 + x8_1)) 2)) = ji9 := (i64_w _).trans hji9
    by_cases c10 : 0 ≤ (ji9)
    ·rw [if_pos c10] at H
     have c10b0 : decide (0 ≤ (ji9)) = true := decide_eq_true c10
     clear c10
     by_cases c11 : (ji9) < (t250.length : Int)
     ·rw [if_pos c11] at H
      have c11b0 : decide ((ji9) < (t250.length : Int)) = true := decide_eq_true c11
      clear c11
      replace H := Option.bind_eq_some_iff.mp H
      obtain ⟨t254, A120, H⟩ := H
      replace H : (if t254 = true then (spec_stPut.l0 k1 t250 a2 (wrap64 ((ji9) + 1)) x8_1 l1_0 l1_1 a1_2) else (spec_stPut.l0 k1 t250 a2 x7_1 ji9 l1_0 l1_1 a1_2)) = some r := H
      have A12 := am A120
      clear A120
      by_cases c13 : t254 = true
      ·subst c13
       have H1 : (spec_stPut.l0 k1 t250 a2 (wrap64 ((ji9) + 1)) x8_1 l1_0 l1_1 a1_2) = some r := by rw [if_pos rfl] at H; exact H
       clear H
       have H := H1
       clear H1
       have H' := am H
       clear H
       try go_wp2
       have n0_ := am (nD HO_0.out)
       have n1_ := am (vD HO_250000.out)
       have n2_ := am (vD HO_250001.out)
       have nBX_ := am (BX_drew BX.out); have n3_ := am (kC BK249.out)
       have n4_ := am (below_drew1 HB.out)
       clear HO_0 HO_250000 HO_250001 BK249 BX HB
       have HO_0 := n0_
       have HO_250000 := n1_
       have HO_250001 := n2_
       have BK249 := n3_; have BX := nBX_; clear nBX_
       have HB := n4_
       clear n0_ n1_ n2_ n3_ n4_
       have p253 : 0 ≤ ((ji9) : Int) := ofd (by assumption)
       have q253 : (ji9) < (t250.length : Int) := ofd (by assumption)
       obtain ⟨ad253, A253_0, c253_0, A253_1, c253_1, e253, hx253_0, hx253_1, hx253_2, hx253_3, hl253_0, hi253_0, hl253_1, hi253_1⟩ := at_T83 (Kd.N_reads' HO_0.out).2.2 (ji9) p253 q253
       cases e253
       obtain ⟨ce253, hce253, hMe253, hcc253⟩ := Kd.N_get HO_0.out z83 (ji9) p253 (by first | exact q253 | exact ofd (by assumption) | (have e_ := (Kd.N_reads' HO_0.out).1; omega))
       obtain ⟨ua253_0, uc253_0, ua253_1, uc253_1, rfl, ul253_0, ge253_0, ul253_1, ge253_1⟩ := k83_openF hMe253
       have hv253_0 := hcc253 0 _ rfl
       rw [Nat.add_zero] at hv253_0
       replace hv253_0 := Option.some.inj (hv253_0.symm.trans hx253_0)
       injection hv253_0 with hva_ hvn_ hvc_
       rw [hva_] at ge253_0
       rw [hvc_] at ul253_0
       have HL253_0 := am (show Kd.V (Kd.int .i64) 3 _ w0.heap.size _ _ ((rd_T83 t250 (ji9)).f0.f0) from Kd.V_mk ul253_0 ge253_0)
       clear hva_ hvn_ hvc_ ge253_0 ul253_0
       have hv253_1 := hcc253 1 _ rfl
       rw [add_field _ _ 1 (by omega)] at hv253_1
       replace hv253_1 := Option.some.inj (hv253_1.symm.trans hx253_1)
       injection hv253_1 with hva_ hvn_ hvc_
       rw [hva_] at ge253_1
       rw [hvc_] at ul253_1
       have HL253_1 := am (show Kd.V (Kd.int .i64) 3 _ w0.heap.size _ _ ((rd_T83 t250 (ji9)).f0.f1) from Kd.V_mk ul253_1 ge253_1)
       clear hva_ hvn_ hvc_ ge253_1 ul253_1 hcc253 hce253
       have HR253_0 := am hi253_0
       have HC253_0 := am hl253_0
       clear hi253_0 hl253_0
       have HR253_1 := am hi253_1
       have HC253_1 := am hl253_1
       clear hi253_1 hl253_1
       replace p253 := eq_true p253
       replace q253 := eq_true q253
       refine start_ (n := 7) (S := fun w' => w'.cell? ⟨gb249, 0, none⟩ = some (.slice A1_0 l1_0.length c1_0) ∧ w'.cell? ⟨gb249, 1, none⟩ = some (.slice A1_1 l1_1.length c1_1) ∧ w'.cell? ⟨gb249, 2, none⟩ = some (.int .i64 a1_2) ∧ w'.cell? (ad253.add (((ji9)).toNat * 4)) = some (.slice A253_0 ((rd_T83 t250 (ji9)).f0.f0).length c253_0) ∧ w'.cell? ⟨(ad253.add (((ji9)).toNat * 4)).block, (ad253.add (((ji9)).toNat * 4)).off + 1, none⟩ = some (.slice A253_1 ((rd_T83 t250 (ji9)).f0.f1).length c253_1) ∧ w'.cell? ⟨(ad253.add (((ji9)).toNat * 4)).block, (ad253.add (((ji9)).toNat * 4)).off + 2, none⟩ = some (.int .i64 ((rd_T83 t250 (ji9)).f0.f2)) ∧ w'.cell? ⟨(ad253.add (((ji9)).toNat * 4)).block, (ad253.add (((ji9)).toNat * 4)).off + 3, none⟩ = some (.int .i64 ((rd_T83 t250 (ji9)).f1))) (ds := []) #[false, false, false, false, false, false, false] (by kernel_rfl) rfl rfl ⟨(blk_cell BK249.out 0).trans rfl, (blk_cell BK249.out 1).trans rfl, (blk_cell BK249.out 2).trans rfl, hx253_0, hx253_1, hx253_2, hx253_3⟩ (fun hHeld => ?_)
       generalize wr.drew = w14 at HO_0 HO_250000 HO_250001 BK249 BX HB HL253_0 HL253_1 HR253_0 HR253_1 hx253_0 hx253_1 hx253_2 hx253_3 hHeld ⊢
       refine pure_ (i := 0) (N := some 19) (v := ?_) (a' := ?_) #[true, false, false, false, false, false, false] rfl rfl (by kernel_rfl) (fun _ _ _ h => h) (Or.inl ⟨by rfl, ?_⟩) ?_ ?_
       rotate_left
       ·intro w'
        go_simp
        with_reducible rfl
       rotate_left
       ·simp only [Act.put, sI, s0_, s1_, i64_w, i32_w]
        rfl
       refine pure_ (i := 1) (N := some 20) (v := ?_) (a' := ?_) #[true, true, false, false, false, false, false] rfl rfl (by kernel_rfl) (fun _ _ _ h => h) (Or.inl ⟨by rfl, ?_⟩) ?_ ?_
       rotate_left
       ·intro w'
        go_simp
        with_reducible rfl
       rotate_left
       ·simp only [Act.put, sI, s0_, s1_, i64_w, i32_w]
        rfl
       refine pure_ (i := 2) (N := some 21) (v := ?_) (a' := ?_) #[true, true, true, false, false, false, false] rfl rfl (by kernel_rfl) (fun _ _ _ h => h) (Or.inl ⟨by rfl, ?_⟩) ?_ ?_
       rotate_left
       ·intro w'
        go_simp
        with_reducible rfl
       rotate_left
       ·simp only [Act.put, sI, s0_, s1_, i64_w, i32_w]
        rfl
       refine pure_ (i := 3) (N := some 22) (v := ?_) (a' := ?_) #[true, true, true, true, false, false, false] rfl rfl (by kernel_rfl) (fun _ _ _ h => h) (Or.inl ⟨by rfl, ?_⟩) ?_ ?_
       rotate_left
       ·intro w'
        go_simp
        with_reducible rfl
       rotate_left
       ·simp only [Act.put, sI, s0_, s1_, i64_w, i32_w]
        rfl
       refine take_ (i := 4) (N := some 23) (v := ?_) (a' := ?_) #[true, true, true, true, true, false, false] rfl rfl (by kernel_rfl) (fun _ _ _ h => h) (Or.inl ⟨by rfl, ?_⟩) hHeld ?_ ?_
       rotate_left
       ·rintro w' ⟨s0, s1, s2, s3, s4, s5, s6⟩
        go_simp
        with_reducible rfl
       rotate_left
       ·simp only [Act.put, sI, s0_, s1_, i64_w, i32_w]
        rfl
       refine take_ (i := 5) (N := some 24) (v := ?_) (a' := ?_) #[true, true, true, true, true, true, false] rfl rfl (by kernel_rfl) (fun _ _ _ h => h) (Or.inl ⟨by rfl, ?_⟩) hHeld ?_ ?_
       rotate_left
       ·rintro w' ⟨s0, s1, s2, s3, s4, s5, s6⟩
        go_simp
        with_reducible rfl
       rotate_left
       ·simp only [Act.put, sI, s0_, s1_, i64_w, i32_w]
        rfl
       refine one_ (i := 6) (N := some 25) #[true, true, true, true, true, true, true] rfl rfl (by kernel_rfl) (by decide) (fun K hK => ?_)
       refine goes_ Try.func87 (by kernel_rfl) rfl #[.agg #[.slice A253_0 ((rd_T83 t250 (ji9)).f0.f0).length c253_0, .slice A253_1 ((rd_T83 t250 (ji9)).f0.f1).length c253_1, .int .i64 ((rd_T83 t250 (ji9)).f0.f2)], .agg #[.slice A1_0 l1_0.length c1_0, .slice A1_1 l1_1.length c1_1, .int .i64 a1_2]] (by rfl) rfl rfl (by (try simp only [mT, mC, mZ]); first | done | (simp only [hji9]; rfl) | rfl | (simp only [List.length_drop, List.length_take]; rfl)) ?_
       with_reducible refine (spec_stLess.calls k1 _ _ ((rd_T83 t250 (ji9)).f0.f0) _ _ ((rd_T83 t250 (ji9)).f0.f1) ((rd_T83 t250 (ji9)).f0.f2) _ _ l1_0 _ _ l1_1 a1_2 true _ ?side1 ?side2 ?side3 ?side4 ?side5 ?side6 ?side7 ?side8 A12.out).mono ?_
       (case side1 => repeat (first | exact (Kd.V_reads' HL253_0.out).2.2 | (with_reducible first | apply cA | apply cN | apply cD)))
       (case side2 => exact (Kd.V_reads' HL253_0.out).2.1)
       (case side3 => repeat (first | exact (Kd.V_reads' HL253_1.out).2.2 | (with_reducible first | apply cA | apply cN | apply cD)))
       (case side4 => exact (Kd.V_reads' HL253_1.out).2.1)
       (case side5 => repeat (first | exact (Kd.V_reads' HO_250000.out).2.2 | (with_reducible first | apply cA | apply cN | apply cD)))
       (case side6 => exact (Kd.V_reads' HO_250000.out).2.1)
       (case side7 => repeat (first | exact (Kd.V_reads' HO_250001.out).2.2 | (with_reducible first | apply cA | apply cN | apply cD)))
       (case side8 => exact (Kd.V_reads' HO_250001.out).2.1)
       rintro e w15 ⟨rfl, hb⟩
       have HS3_ := (hb.cell (World.block_lt_of_cell? _ _ (hHeld.2.2.2.1))).trans (hHeld.2.2.2.1)
       have HS4_ := (hb.cell (World.block_lt_of_cell? _ _ (hHeld.2.2.2.2.1))).trans (hHeld.2.2.2.2.1)
       have HS5_ := (hb.cell (World.block_lt_of_cell? _ _ (hHeld.2.2.2.2.2.1))).trans (hHeld.2.2.2.2.2.1)
       have HS6_ := (hb.cell (World.block_lt_of_cell? _ _ (hHeld.2.2.2.2.2.2))).trans (hHeld.2.2.2.2.2.2)
       refine ⟨_, rfl, ?_⟩
       have n0_ := am (Kd.N_below (by (with_reducible repeat (first | apply nA | apply nN | apply nD)); exact HO_0.out) hb)
       have n1_ := am (Kd.V_below (by (with_reducible repeat (first | apply vA | apply vN | apply vD)); exact HO_250000.out) hb)
       have n2_ := am (Kd.V_below (by (with_reducible repeat (first | apply vA | apply vN | apply vD)); exact HO_250001.out) hb)
       have n3_ := am (Kd.V_below (by (with_reducible repeat (first | apply vA | apply vN | apply vD)); exact HL253_0.out) hb)
       have n4_ := am (Kd.V_below (by (with_reducible repeat (first | apply vA | apply vN | apply vD)); exact HL253_1.out) hb)
       have nBX_ := am (BX_below (by (with_reducible repeat (first | refine BX_drewN ?_ _ | refine BX_drew ?_ | refine BX_alloc ?_ _)); exact BX.out) hb); have n5_ := am (blk_below (g := gb249) (by (with_reducible repeat (first | apply kB | apply kC | apply kE)); exact BK249.out) hb)
       have n6_ := am (Kd.C_below (by repeat (first | (with_reducible exact HR253_0.out) | (with_reducible first | apply cA | apply cN | apply cD) | exact HR253_0.out)) hb)
       have n7_ := am (Kd.C_below (by repeat (first | (with_reducible exact HR253_1.out) | (with_reducible first | apply cA | apply cN | apply cD) | exact HR253_1.out)) hb)
       have n8_ := am (below_step (by repeat (with_reducible first | exact HB.out | apply bA | apply bN | apply bD | refine bS ?_ GE249.out)) hb)
       clear HO_0 HO_250000 HO_250001 HL253_0 HL253_1 BK249 BX HR253_0 HR253_1 HB
       have HO_0 := n0_
       have HO_250000 := n1_
       have HO_250001 := n2_
       have HL253_0 := n3_
       have HL253_1 := n4_
       have BK249 := n5_; have BX := nBX_; clear nBX_
       have HR253_0 := n6_
       have HR253_1 := n7_
       have HB := n8_
       clear n0_ n1_ n2_ n3_ n4_ n5_ n6_ n7_ n8_
       (try clear hb)
       (try clear hb2)
       (try clear hk)
       (try clear hi)
       refine hK.out _ _ ⟨(blk_cell BK249.out 0).trans rfl, (blk_cell BK249.out 1).trans rfl, (blk_cell BK249.out 2).trans rfl, HS3_, HS4_, HS5_, HS6_⟩ (fun hHeld => ?_)
       clear hK K
       refine norm_ (a' := ?_) ?_ ?_
       rotate_left
       ·show Act.put _ (some 25) _ = _
        simp only [Act.put, sI, s0_, s1_, i64_w, i32_w]
        rfl
       refine done_ (by kernel_rfl) ?_
       try go_wp2
       go_roundg k1
       case measure => have := HK1.out; omega
       case rel => exact ⟨(wrap64 ((ji9) + 1)), (x8_1), (by first | rfl | (simp; done) | (simp only [← hji9] <;> (first | rfl | simp)) | (simp [*]; done)), (by first | rfl | (simp; done) | (simp [*]; done)), H', ⟨by have := HK1.out; omega⟩, ⟨by (with_reducible repeat (first | apply nA | apply nN | apply nD)); exact HO_0.out⟩, ⟨by (with_reducible repeat (first | apply vA | apply vN | apply vD)); exact HO_250000.out⟩, ⟨by (with_reducible repeat (first | apply vA | apply vN | apply vD)); exact HO_250001.out⟩, ⟨by (with_reducible repeat (first | apply kB | apply kC | apply kE)); exact BK249.out⟩, ⟨by (with_reducible repeat (first | refine BX_drewN ?_ _ | refine BX_drew ?_ | refine BX_alloc ?_ _)); exact BX.out⟩, ⟨by repeat (with_reducible first | exact HB.out | apply bA | apply bN | apply bD | refine bS ?_ GE249.out)⟩⟩
      ·replace c13 := Bool.eq_false_iff.mpr c13
       subst c13
       have H1 : (spec_stPut.l0 k1 t250 a2 x7_1 ji9 l1_0 l1_1 a1_2) = some r := by rw [if_neg (show ¬ (false = true) by decide)] at H; exact H
       clear H
       have H := H1
       clear H1
       have H' := am H
       clear H
       try go_wp2
       have n0_ := am (nD HO_0.out)
       have n1_ := am (vD HO_250000.out)
       have n2_ := am (vD HO_250001.out)
       have nBX_ := am (BX_drew BX.out); have n3_ := am (kC BK249.out)
       have n4_ := am (below_drew1 HB.out)
       clear HO_0 HO_250000 HO_250001 BK249 BX HB
       have HO_0 := n0_
       have HO_250000 := n1_
       have HO_250001 := n2_
       have BK249 := n3_; have BX := nBX_; clear nBX_
       have HB := n4_
       clear n0_ n1_ n2_ n3_ n4_
       have p253 : 0 ≤ ((ji9) : Int) := ofd (by assumption)
       have q253 : (ji9) < (t250.length : Int) := ofd (by assumption)
       obtain ⟨ad253, A253_0, c253_0, A253_1, c253_1, e253, hx253_0, hx253_1, hx253_2, hx253_3, hl253_0, hi253_0, hl253_1, hi253_1⟩ := at_T83 (Kd.N_reads' HO_0.out).2.2 (ji9) p253 q253
       cases e253
       obtain ⟨ce253, hce253, hMe253, hcc253⟩ := Kd.N_get HO_0.out z83 (ji9) p253 (by first | exact q253 | exact ofd (by assumption) | (have e_ := (Kd.N_reads' HO_0.out).1; omega))
       obtain ⟨ua253_0, uc253_0, ua253_1, uc253_1, rfl, ul253_0, ge253_0, ul253_1, ge253_1⟩ := k83_openF hMe253
       have hv253_0 := hcc253 0 _ rfl
       rw [Nat.add_zero] at hv253_0
       replace hv253_0 := Option.some.inj (hv253_0.symm.trans hx253_0)
       injection hv253_0 with hva_ hvn_ hvc_
       rw [hva_] at ge253_0
       rw [hvc_] at ul253_0
       have HL253_0 := am (show Kd.V (Kd.int .i64) 3 _ w0.heap.size _ _ ((rd_T83 t250 (ji9)).f0.f0) from Kd.V_mk ul253_0 ge253_0)
       clear hva_ hvn_ hvc_ ge253_0 ul253_0
       have hv253_1 := hcc253 1 _ rfl
       rw [add_field _ _ 1 (by omega)] at hv253_1
       replace hv253_1 := Option.some.inj (hv253_1.symm.trans hx253_1)
       injection hv253_1 with hva_ hvn_ hvc_
       rw [hva_] at ge253_1
       rw [hvc_] at ul253_1
       have HL253_1 := am (show Kd.V (Kd.int .i64) 3 _ w0.heap.size _ _ ((rd_T83 t250 (ji9)).f0.f1) from Kd.V_mk ul253_1 ge253_1)
       clear hva_ hvn_ hvc_ ge253_1 ul253_1 hcc253 hce253
       have HR253_0 := am hi253_0
       have HC253_0 := am hl253_0
       clear hi253_0 hl253_0
       have HR253_1 := am hi253_1
       have HC253_1 := am hl253_1
       clear hi253_1 hl253_1
       replace p253 := eq_true p253
       replace q253 := eq_true q253
       refine start_ (n := 7) (S := fun w' => w'.cell? ⟨gb249, 0, none⟩ = some (.slice A1_0 l1_0.length c1_0) ∧ w'.cell? ⟨gb249, 1, none⟩ = some (.slice A1_1 l1_1.length c1_1) ∧ w'.cell? ⟨gb249, 2, none⟩ = some (.int .i64 a1_2) ∧ w'.cell? (ad253.add (((ji9)).toNat * 4)) = some (.slice A253_0 ((rd_T83 t250 (ji9)).f0.f0).length c253_0) ∧ w'.cell? ⟨(ad253.add (((ji9)).toNat * 4)).block, (ad253.add (((ji9)).toNat * 4)).off + 1, none⟩ = some (.slice A253_1 ((rd_T83 t250 (ji9)).f0.f1).length c253_1) ∧ w'.cell? ⟨(ad253.add (((ji9)).toNat * 4)).block, (ad253.add (((ji9)).toNat * 4)).off + 2, none⟩ = some (.int .i64 ((rd_T83 t250 (ji9)).f0.f2)) ∧ w'.cell? ⟨(ad253.add (((ji9)).toNat * 4)).block, (ad253.add (((ji9)).toNat * 4)).off + 3, none⟩ = some (.int .i64 ((rd_T83 t250 (ji9)).f1))) (ds := []) #[false, false, false, false, false, false, false] (by kernel_rfl) rfl rfl ⟨(blk_cell BK249.out 0).trans rfl, (blk_cell BK249.out 1).trans rfl, (blk_cell BK249.out 2).trans rfl, hx253_0, hx253_1, hx253_2, hx253_3⟩ (fun hHeld => ?_)
       generalize wr.drew = w16 at HO_0 HO_250000 HO_250001 BK249 BX HB HL253_0 HL253_1 HR253_0 HR253_1 hx253_0 hx253_1 hx253_2 hx253_3 hHeld ⊢
       refine pure_ (i := 0) (N := some 19) (v := ?_) (a' := ?_) #[true, false, false, false, false, false, false] rfl rfl (by kernel_rfl) (fun _ _ _ h => h) (Or.inl ⟨by rfl, ?_⟩) ?_ ?_
       rotate_left
       ·intro w'
        go_simp
        with_reducible rfl
       rotate_left
       ·simp only [Act.put, sI, s0_, s1_, i64_w, i32_w]
        rfl
       refine pure_ (i := 1) (N := some 20) (v := ?_) (a' := ?_) #[true, true, false, false, false, false, false] rfl rfl (by kernel_rfl) (fun _ _ _ h => h) (Or.inl ⟨by rfl, ?_⟩) ?_ ?_
       rotate_left
       ·intro w'
        go_simp
        with_reducible rfl
       rotate_left
       ·simp only [Act.put, sI, s0_, s1_, i64_w, i32_w]
        rfl
       refine pure_ (i := 2) (N := some 21) (v := ?_) (a' := ?_) #[true, true, true, false, false, false, false] rfl rfl (by kernel_rfl) (fun _ _ _ h => h) (Or.inl ⟨by rfl, ?_⟩) ?_ ?_
       rotate_left
       ·intro w'
        go_simp
        with_reducible rfl
       rotate_left
       ·simp only [Act.put, sI, s0_, s1_, i64_w, i32_w]
        rfl
       refine pure_ (i := 3) (N := some 22) (v := ?_) (a' := ?_) #[true, true, true, true, false, false, false] rfl rfl (by kernel_rfl) (fun _ _ _ h => h) (Or.inl ⟨by rfl, ?_⟩) ?_ ?_
       rotate_left
       ·intro w'
        go_simp
        with_reducible rfl
       rotate_left
       ·simp only [Act.put, sI, s0_, s1_, i64_w, i32_w]
        rfl
       refine take_ (i := 4) (N := some 23) (v := ?_) (a' := ?_) #[true, true, true, true, true, false, false] rfl rfl (by kernel_rfl) (fun _ _ _ h => h) (Or.inl ⟨by rfl, ?_⟩) hHeld ?_ ?_
       rotate_left
       ·rintro w' ⟨s0, s1, s2, s3, s4, s5, s6⟩
        go_simp
        with_reducible rfl
       rotate_left
       ·simp only [Act.put, sI, s0_, s1_, i64_w, i32_w]
        rfl
       refine take_ (i := 5) (N := some 24) (v := ?_) (a' := ?_) #[true, true, true, true, true, true, false] rfl rfl (by kernel_rfl) (fun _ _ _ h => h) (Or.inl ⟨by rfl, ?_⟩) hHeld ?_ ?_
       rotate_left
       ·rintro w' ⟨s0, s1, s2, s3, s4, s5, s6⟩
        go_simp
        with_reducible rfl
       rotate_left
       ·simp only [Act.put, sI, s0_, s1_, i64_w, i32_w]
        rfl
       refine one_ (i := 6) (N := some 25) #[true, true, true, true, true, true, true] rfl rfl (by kernel_rfl) (by decide) (fun K hK => ?_)
       refine goes_ Try.func87 (by kernel_rfl) rfl #[.agg #[.slice A253_0 ((rd_T83 t250 (ji9)).f0.f0).length c253_0, .slice A253_1 ((rd_T83 t250 (ji9)).f0.f1).length c253_1, .int .i64 ((rd_T83 t250 (ji9)).f0.f2)], .agg #[.slice A1_0 l1_0.length c1_0, .slice A1_1 l1_1.length c1_1, .int .i64 a1_2]] (by rfl) rfl rfl (by (try simp only [mT, mC, mZ]); first | done | (simp only [hji9]; rfl) | rfl | (simp only [List.length_drop, List.length_take]; rfl)) ?_
       with_reducible refine (spec_stLess.calls k1 _ _ ((rd_T83 t250 (ji9)).f0.f0) _ _ ((rd_T83 t250 (ji9)).f0.f1) ((rd_T83 t250 (ji9)).f0.f2) _ _ l1_0 _ _ l1_1 a1_2 false _ ?side1 ?side2 ?side3 ?side4 ?side5 ?side6 ?side7 ?side8 A12.out).mono ?_
       (case side1 => repeat (first | exact (Kd.V_reads' HL253_0.out).2.2 | (with_reducible first | apply cA | apply cN | apply cD)))
       (case side2 => exact (Kd.V_reads' HL253_0.out).2.1)
       (case side3 => repeat (first | exact (Kd.V_reads' HL253_1.out).2.2 | (with_reducible first | apply cA | apply cN | apply cD)))
       (case side4 => exact (Kd.V_reads' HL253_1.out).2.1)
       (case side5 => repeat (first | exact (Kd.V_reads' HO_250000.out).2.2 | (with_reducible first | apply cA | apply cN | apply cD)))
       (case side6 => exact (Kd.V_reads' HO_250000.out).2.1)
       (case side7 => repeat (first | exact (Kd.V_reads' HO_250001.out).2.2 | (with_reducible first | apply cA | apply cN | apply cD)))
       (case side8 => exact (Kd.V_reads' HO_250001.out).2.1)
       rintro e w17 ⟨rfl, hb⟩
       have HS3_ := (hb.cell (World.block_lt_of_cell? _ _ (hHeld.2.2.2.1))).trans (hHeld.2.2.2.1)
       have HS4_ := (hb.cell (World.block_lt_of_cell? _ _ (hHeld.2.2.2.2.1))).trans (hHeld.2.2.2.2.1)
       have HS5_ := (hb.cell (World.block_lt_of_cell? _ _ (hHeld.2.2.2.2.2.1))).trans (hHeld.2.2.2.2.2.1)
       have HS6_ := (hb.cell (World.block_lt_of_cell? _ _ (hHeld.2.2.2.2.2.2))).trans (hHeld.2.2.2.2.2.2)
       refine ⟨_, rfl, ?_⟩
       have n0_ := am (Kd.N_below (by (with_reducible repeat (first | apply nA | apply nN | apply nD)); exact HO_0.out) hb)
       have n1_ := am (Kd.V_below (by (with_reducible repeat (first | apply vA | apply vN | apply vD)); exact HO_250000.out) hb)
       have n2_ := am (Kd.V_below (by (with_reducible repeat (first | apply vA | apply vN | apply vD)); exact HO_250001.out) hb)
       have n3_ := am (Kd.V_below (by (with_reducible repeat (first | apply vA | apply vN | apply vD)); exact HL253_0.out) hb)
       have n4_ := am (Kd.V_below (by (with_reducible repeat (first | apply vA | apply vN | apply vD)); exact HL253_1.out) hb)
       have nBX_ := am (BX_below (by (with_reducible repeat (first | refine BX_drewN ?_ _ | refine BX_drew ?_ | refine BX_alloc ?_ _)); exact BX.out) hb); have n5_ := am (blk_below (g := gb249) (by (with_reducible repeat (first | apply kB | apply kC | apply kE)); exact BK249.out) hb)
       have n6_ := am (Kd.C_below (by repeat (first | (with_reducible exact HR253_0.out) | (with_reducible first | apply cA | apply cN | apply cD) | exact HR253_0.out)) hb)
       have n7_ := am (Kd.C_below (by repeat (first | (with_reducible exact HR253_1.out) | (with_reducible first | apply cA | apply cN | apply cD) | exact HR253_1.out)) hb)
       have n8_ := am (below_step (by repeat (with_reducible first | exact HB.out | apply bA | apply bN | apply bD | refine bS ?_ GE249.out)) hb)
       clear HO_0 HO_250000 HO_250001 HL253_0 HL253_1 BK249 BX HR253_0 HR253_1 HB
       have HO_0 := n0_
       have HO_250000 := n1_
       have HO_250001 := n2_
       have HL253_0 := n3_
       have HL253_1 := n4_
       have BK249 := n5_; have BX := nBX_; clear nBX_
       have HR253_0 := n6_
       have HR253_1 := n7_
       have HB := n8_
       clear n0_ n1_ n2_ n3_ n4_ n5_ n6_ n7_ n8_
       (try clear hb)
       (try clear hb2)
       (try clear hk)
       (try clear hi)
       refine hK.out _ _ ⟨(blk_cell BK249.out 0).trans rfl, (blk_cell BK249.out 1).trans rfl, (blk_cell BK249.out 2).trans rfl, HS3_, HS4_, HS5_, HS6_⟩ (fun hHeld => ?_)
       clear hK K
       refine norm_ (a' := ?_) ?_ ?_
       rotate_left
       ·show Act.put _ (some 25) _ = _
        simp only [Act.put, sI, s0_, s1_, i64_w, i32_w]
        rfl
       refine done_ (by kernel_rfl) ?_
       try go_wp2
       go_roundg k1
       case measure => have := HK1.out; omega
       case rel => exact ⟨(x7_1), (ji9), (by first | rfl | (simp; done) | (simp [*]; done)), (by first | rfl | (simp; done) | (simp only [← hji9] <;> (first | rfl | simp)) | (simp [*]; done)), H', ⟨by have := HK1.out; omega⟩, ⟨by (with_reducible repeat (first | apply nA | apply nN | apply nD)); exact HO_0.out⟩, ⟨by (with_reducible repeat (first | apply vA | apply vN | apply vD)); exact HO_250000.out⟩, ⟨by (with_reducible repeat (first | apply vA | apply vN | apply vD)); exact HO_250001.out⟩, ⟨by (with_reducible repeat (first | apply kB | apply kC | apply kE)); exact BK249.out⟩, ⟨by (with_reducible repeat (first | refine BX_drewN ?_ _ | refine BX_drew ?_ | refine BX_alloc ?_ _)); exact BX.out⟩, ⟨by repeat (with_reducible first | exact HB.out | apply bA | apply bN | apply bD | refine bS ?_ GE249.out)⟩⟩
     ·rw [if_neg c11] at H
      exact absurd H (by simp)
    ·rw [if_neg c10] at H
     exact absurd H (by simp)
   ·rw [if_neg c8] at H
    have c8b0 : decide (x7_1 < x8_1) = false := decide_eq_false c8
    clear c8
    by_cases c18 : x7_1 < (t250.length : Int)
    ·rw [if_pos c18] at H
     have c18b0 : decide (x7_1 < (t250.length : Int)) = true := decide_eq_true c18
     clear c18
     by_cases c19 : 0 ≤ x7_1
     ·rw [if_pos c19] at H
      have c19b0 : decide (0 ≤ x7_1) = true := decide_eq_true c19
      clear c19
      replace H := Option.bind_eq_some_iff.mp H
      obtain ⟨t256, A200, H⟩ := H
      replace H : (if t256 = true then (if t250.length < 2199023255552 then ((some (t250 ++ [(⟨(⟨([] : List Int), ([] : List Int), 0⟩ : S27), 0⟩ : S83)] : List (S83))).bind fun y257 => (if 0 ≤ (wrap64 (x7_1 + 1)) then (if (wrap64 (x7_1 + 1)) ≤ (y257.length : Int) then (if x7_1 ≤ (y257.length : Int) then (if y257.length < 2199023255552 then ((some (shiftL y257 (x7_1 : Int).toNat : List (S83))).bind fun y270 => (if x7_1 < (y270.length : Int) then (some (y270.set (x7_1 : Int).toNat (⟨(⟨l1_0, l1_1, a1_2⟩ : S27), a2⟩ : S83))) else (none))) else (none)) else (none)) else (none)) else (none))) else (none)) else (some (t250.set (x7_1 : Int).toNat (⟨(⟨(rd_T83 t250 x7_1).f0.f0, (rd_T83 t250 x7_1).f0.f1, (rd_T83 t250 x7_1).f0.f2⟩ : S27), wrap64 (((rd_T83 t250 x7_1).f1) + a2)⟩ : S83)))) = some r := H
      have A20 := am A200
      clear A200
      by_cases c21 : t256 = true
      ·subst c21
       have H1 : (if t250.length < 2199023255552 then ((some (t250 ++ [(⟨(⟨([] : List Int), ([] : List Int), 0⟩ : S27), 0⟩ : S83)] : List (S83))).bind fun y257 => (if 0 ≤ (wrap64 (x7_1 + 1)) then (if (wrap64 (x7_1 + 1)) ≤ (y257.length : Int) then (if x7_1 ≤ (y257.length : Int) then (if y257.length < 2199023255552 then ((some (shiftL y257 (x7_1 : Int).toNat : List (S83))).bind fun y270 => (if x7_1 < (y270.length : Int) then (some (y270.set (x7_1 : Int).toNat (⟨(⟨l1_0, l1_1, a1_2⟩ : S27), a2⟩ : S83))) else (none))) else (none)) else (none)) else (none)) else (none))) else (none)) = some r := by rw [if_pos rfl] at H; exact H
       clear H
       have H := H1
       clear H1
       by_cases c22 : t250.length < 2199023255552
       ·rw [if_pos c22] at H
        have LMc22 := am c22
        clear c22
        obtain ⟨y257, hy257⟩ : ∃ y_ : List (S83), y_ = (t250 ++ [(⟨(⟨([] : List Int), ([] : List Int), 0⟩ : S27), 0⟩ : S83)]) := ⟨_, rfl⟩
        replace H : (if 0 ≤ (wrap64 (x7_1 + 1)) then (if (wrap64 (x7_1 + 1)) ≤ (y257.length : Int) then (if x7_1 ≤ (y257.length : Int) then (if y257.length < 2199023255552 then ((some (shiftL y257 (x7_1 : Int).toNat : List (S83))).bind fun y270 => (if x7_1 < (y270.length : Int) then (some (y270.set (x7_1 : Int).toNat (⟨(⟨l1_0, l1_1, a1_2⟩ : S27), a2⟩ : S83))) else (none))) else (none)) else (none)) else (none)) else (none)) = some r := by first | (rw [hy257]; with_reducible exact H) | (have H2_ := (Option.bind_some _ _).symm.trans H; rw [hy257]; with_reducible exact H2_) | (have H2_ := (Option.bind_some _ _).symm.trans H; with_reducible exact H2_) | with_reducible exact H | (rw [hy257]; exact H) | exact H
        have Ny257 := am hy257
        clear hy257
        obtain ⟨ji23, hji23⟩ : ∃ j_ : Int, (wrap64 (x7_1 + 1)) = j_ := ⟨_, rfl⟩
        replace H : (if 0 ≤ (ji23) then (if (ji23) ≤ (y257.length : Int) then (if x7_1 ≤ (y257.length : Int) then (if y257.length < 2199023255552 then ((some (shiftL y257 (x7_1 : Int).toNat : List (S83))).bind fun y270 => (if x7_1 < (y270.length : Int) then (some (y270.set (x7_1 : Int).toNat (⟨(⟨l1_0, l1_1, a1_2⟩ : S27), a2⟩ : S83))) else (none))) else (none)) else (none)) else (none)) else (none)) = some r := by first | (rw [hji23] at H; exact H) | (simp only [hji23] at H ⊢; exact H)
        (try rw [hji23] at A20)
        have hji23w : (IntKind.i64.wrap (x7_1 + 1)) = ji23 := (i64_w _).trans hji23
        by_cases c24 : 0 ≤ (ji23)
        ·rw [if_pos c24] at H
         have c24b0 := eq_true c24
         have c24b1 : decide (0 ≤ (ji23)) = true := decide_eq_true c24
         clear c24
         by_cases c25 : (ji23) ≤ (y257.length : Int)
         ·rw [if_pos c25] at H
          have c25b0 := eq_true c25
          have c25b1 : decide ((ji23) ≤ (y257.length : Int)) = true := decide_eq_true c25
          clear c25
          obtain ⟨y260, hy260⟩ : ∃ y_ : List (S83), y_ = (y257.drop ((ji23) : Int).toNat) := ⟨_, rfl⟩
          replace H : (if x7_1 ≤ (y257.length : Int) then (if y257.length < 2199023255552 then ((some (shiftL y257 (x7_1 : Int).toNat : List (S83))).bind fun y270 => (if x7_1 < (y270.length : Int) then (some (y270.set (x7_1 : Int).toNat (⟨(⟨l1_0, l1_1, a1_2⟩ : S27), a2⟩ : S83))) else (none))) else (none)) else (none)) = some r := by first | (rw [hy260]; with_reducible exact H) | (have H2_ := (Option.bind_some _ _).symm.trans H; rw [hy260]; with_reducible exact H2_) | (have H2_ := (Option.bind_some _ _).symm.trans H; with_reducible exact H2_) | with_reducible exact H | (rw [hy260]; exact H) | exact H
          have Ny260 := am hy260
          clear hy260
          have c26b0 := eq_true (ofd (by assumption) : 0 ≤ x7_1)
          by_cases c27 : x7_1 ≤ (y257.length : Int)
          ·rw [if_pos c27] at H
           have c27b0 := eq_true c27
           have c27b1 : decide (x7_1 ≤ (y257.length : Int)) = true := decide_eq_true c27
           clear c27
           obtain ⟨y265, hy265⟩ : ∃ y_ : List (S83), y_ = (y257.drop (x7_1 : Int).toNat) := ⟨_, rfl⟩
           replace H : (if y257.length < 2199023255552 then ((some (shiftL y257 (x7_1 : Int).toNat : List (S83))).bind fun y270 => (if x7_1 < (y270.length : Int) then (some (y270.set (x7_1 : Int).toNat (⟨(⟨l1_0, l1_1, a1_2⟩ : S27), a2⟩ : S83))) else (none))) else (none)) = some r := by first | (rw [hy265]; with_reducible exact H) | (have H2_ := (Option.bind_some _ _).symm.trans H; rw [hy265]; with_reducible exact H2_) | (have H2_ := (Option.bind_some _ _).symm.trans H; with_reducible exact H2_) | with_reducible exact H | (rw [hy265]; exact H) | exact H
           have Ny265 := am hy265
           clear hy265
           by_cases c28 : y257.length < 2199023255552
           ·rw [if_pos c28] at H
            have LMc28 := am c28
            clear c28
            obtain ⟨y270, hy270⟩ : ∃ y_ : List (S83), y_ = (shiftL y257 (x7_1 : Int).toNat) := ⟨_, rfl⟩
            replace H : (if x7_1 < (y270.length : Int) then (some (y270.set (x7_1 : Int).toNat (⟨(⟨l1_0, l1_1, a1_2⟩ : S27), a2⟩ : S83))) else (none)) = some r := by first | (rw [hy270]; with_reducible exact H) | (have H2_ := (Option.bind_some _ _).symm.trans H; rw [hy270]; with_reducible exact H2_) | (have H2_ := (Option.bind_some _ _).symm.trans H; with_reducible exact H2_) | with_reducible exact H | (rw [hy270]; exact H) | exact H
            have Ny270 := am hy270
            clear hy270
            by_cases c29 : x7_1 < (y270.length : Int)
            ·rw [if_pos c29] at H
             have c29b0 : decide (x7_1 < (y270.length : Int)) = true := decide_eq_true c29
             clear c29
             obtain ⟨y273, hy273⟩ : ∃ y_ : List (S83), y_ = (y270.set (x7_1 : Int).toNat (⟨(⟨l1_0, l1_1, a1_2⟩ : S27), a2⟩ : S83)) := ⟨_, rfl⟩
             replace H : (some y273) = some r := by first | (rw [hy273]; with_reducible exact H) | (have H2_ := (Option.bind_some _ _).symm.trans H; rw [hy273]; with_reducible exact H2_) | (have H2_ := (Option.bind_some _ _).symm.trans H; with_reducible exact H2_) | with_reducible exact H | (rw [hy273]; exact H) | exact H
             have Ny273 := am hy273
             clear hy273
             obtain rfl := Option.some.inj H
             try go_wp2
             have n0_ := am (nD HO_0.out)
             have n1_ := am (vD HO_250000.out)
             have n2_ := am (vD HO_250001.out)
             have nBX_ := am (BX_drew BX.out); have n3_ := am (kC BK249.out)
             have n4_ := am (below_drew1 HB.out)
             clear HO_0 HO_250000 HO_250001 BK249 BX HB
             have HO_0 := n0_
             have HO_250000 := n1_
             have HO_250001 := n2_
             have BK249 := n3_; have BX := nBX_; clear nBX_
             have HB := n4_
             clear n0_ n1_ n2_ n3_ n4_
             have p255 : 0 ≤ (x7_1 : Int) := ofd (by assumption)
             have q255 : x7_1 < (t250.length : Int) := ofd (by assumption)
             obtain ⟨ad255, A255_0, c255_0, A255_1, c255_1, e255, hx255_0, hx255_1, hx255_2, hx255_3, hl255_0, hi255_0, hl255_1, hi255_1⟩ := at_T83 (Kd.N_reads' HO_0.out).2.2 x7_1 p255 q255
             cases e255
             obtain ⟨ce255, hce255, hMe255, hcc255⟩ := Kd.N_get HO_0.out z83 x7_1 p255 (by first | exact q255 | exact ofd (by assumption) | (have e_ := (Kd.N_reads' HO_0.out).1; omega))
             obtain ⟨ua255_0, uc255_0, ua255_1, uc255_1, rfl, ul255_0, ge255_0, ul255_1, ge255_1⟩ := k83_openF hMe255
             have hv255_0 := hcc255 0 _ rfl
             rw [Nat.add_zero] at hv255_0
             replace hv255_0 := Option.some.inj (hv255_0.symm.trans hx255_0)
             injection hv255_0 with hva_ hvn_ hvc_
             rw [hva_] at ge255_0
             rw [hvc_] at ul255_0
             have HL255_0 := am (show Kd.V (Kd.int .i64) 3 _ w0.heap.size _ _ ((rd_T83 t250 x7_1).f0.f0) from Kd.V_mk ul255_0 ge255_0)
             clear hva_ hvn_ hvc_ ge255_0 ul255_0
             have hv255_1 := hcc255 1 _ rfl
             rw [add_field _ _ 1 (by omega)] at hv255_1
             replace hv255_1 := Option.some.inj (hv255_1.symm.trans hx255_1)
             injection hv255_1 with hva_ hvn_ hvc_
             rw [hva_] at ge255_1
             rw [hvc_] at ul255_1
             have HL255_1 := am (show Kd.V (Kd.int .i64) 3 _ w0.heap.size _ _ ((rd_T83 t250 x7_1).f0.f1) from Kd.V_mk ul255_1 ge255_1)
             clear hva_ hvn_ hvc_ ge255_1 ul255_1 hcc255 hce255
             have HR255_0 := am hi255_0
             have HC255_0 := am hl255_0
             clear hi255_0 hl255_0
             have HR255_1 := am hi255_1
             have HC255_1 := am hl255_1
             clear hi255_1 hl255_1
             replace p255 := eq_true p255
             replace q255 := eq_true q255
             refine start_ (n := 14) (S := fun w' => w'.cell? ⟨gb249, 0, none⟩ = some (.slice A1_0 l1_0.length c1_0) ∧ w'.cell? ⟨gb249, 1, none⟩ = some (.slice A1_1 l1_1.length c1_1) ∧ w'.cell? ⟨gb249, 2, none⟩ = some (.int .i64 a1_2) ∧ w'.cell? (ad255.add ((x7_1).toNat * 4)) = some (.slice A255_0 ((rd_T83 t250 x7_1).f0.f0).length c255_0) ∧ w'.cell? ⟨(ad255.add ((x7_1).toNat * 4)).block, (ad255.add ((x7_1).toNat * 4)).off + 1, none⟩ = some (.slice A255_1 ((rd_T83 t250 x7_1).f0.f1).length c255_1) ∧ w'.cell? ⟨(ad255.add ((x7_1).toNat * 4)).block, (ad255.add ((x7_1).toNat * 4)).off + 2, none⟩ = some (.int .i64 ((rd_T83 t250 x7_1).f0.f2)) ∧ w'.cell? ⟨(ad255.add ((x7_1).toNat * 4)).block, (ad255.add ((x7_1).toNat * 4)).off + 3, none⟩ = some (.int .i64 ((rd_T83 t250 x7_1).f1))) (ds := []) #[false, false, false, false, false, false, false, false, false, false, false, false, false, false] (by kernel_rfl) rfl rfl ⟨(blk_cell BK249.out 0).trans rfl, (blk_cell BK249.out 1).trans rfl, (blk_cell BK249.out 2).trans rfl, hx255_0, hx255_1, hx255_2, hx255_3⟩ (fun hHeld => ?_); refine with_tabW spec_stPut.tab7 spec_stPut.bits7 (fun HT_ HW_ => ?_)
             generalize wr.drew = w31 at HO_0 HO_250000 HO_250001 BK249 BX HB HL255_0 HL255_1 HR255_0 HR255_1 hx255_0 hx255_1 hx255_2 hx255_3 hHeld ⊢
             refine pure_ (i := 0) (N := some 29) (v := ?_) (a' := ?_) #[true, false, false, false, false, false, false, false, false, false, false, false, false, false] rfl rfl (any_of HT_.out (by kernel_rfl)) (fun _ _ _ h => h) (Or.inl ⟨by rfl, ?_⟩) ?_ ?_
             rotate_left
             ·intro w'
              go_simp
              with_reducible rfl
             rotate_left
             ·simp only [Act.put, sI, s0_, s1_, i64_w, i32_w]
              rfl
             refine pure_ (i := 1) (N := some 30) (v := ?_) (a' := ?_) #[true, true, false, false, false, false, false, false, false, false, false, false, false, false] rfl rfl (any_of HT_.out (by kernel_rfl)) (fun _ _ _ h => h) (Or.inl ⟨by rfl, ?_⟩) ?_ ?_
             rotate_left
             ·intro w'
              go_simp
              with_reducible rfl
             rotate_left
             ·simp only [Act.put, sI, s0_, s1_, i64_w, i32_w]
              rfl
             refine pure_ (i := 2) (N := some 31) (v := ?_) (a' := ?_) #[true, true, true, false, false, false, false, false, false, false, false, false, false, false] rfl rfl (any_of HT_.out (by kernel_rfl)) (fun _ _ _ h => h) (Or.inl ⟨by rfl, ?_⟩) ?_ ?_
             rotate_left
             ·intro w'
              go_simp
              with_reducible rfl
             rotate_left
             ·simp only [Act.put, sI, s0_, s1_, i64_w, i32_w]
              rfl
             refine pure_ (i := 3) (N := some 32) (v := ?_) (a' := ?_) #[true, true, true, true, false, false, false, false, false, false, false, false, false, false] rfl rfl (any_of HT_.out (by kernel_rfl)) (fun _ _ _ h => h) (Or.inl ⟨by rfl, ?_⟩) ?_ ?_
             rotate_left
             ·intro w'
              go_simp
              with_reducible rfl
             rotate_left
             ·simp only [Act.put, sI, s0_, s1_, i64_w, i32_w]
              rfl
             refine pure_ (i := 4) (N := some 33) (v := ?_) (a' := ?_) #[true, true, true, true, true, false, false, false, false, false, false, false, false, false] rfl rfl (any_of HT_.out (by kernel_rfl)) (fun _ _ _ h => h) (Or.inl ⟨by rfl, ?_⟩) ?_ ?_
             rotate_left
             ·intro w'
              go_simp
              with_reducible rfl
             rotate_left
             ·simp only [Act.put, sI, s0_, s1_, i64_w, i32_w]
              rfl
             refine pure_ (i := 6) (N := some 35) (v := ?_) (a' := ?_) #[true, true, true, true, true, false, true, false, false, false, false, false, false, false] rfl rfl (any_of HT_.out (by kernel_rfl)) (fun _ _ _ h => h) (Or.inl ⟨by rfl, ?_⟩) ?_ ?_
             rotate_left
             ·intro w'
              go_simp
              with_reducible rfl
             rotate_left
             ·simp only [Act.put, sI, s0_, s1_, i64_w, i32_w]
              rfl
             refine pure_ (i := 7) (N := some 36) (v := ?_) (a' := ?_) #[true, true, true, true, true, false, true, true, false, false, false, false, false, false] rfl rfl (any_of HT_.out (by kernel_rfl)) (fun _ _ _ h => h) (Or.inl ⟨by rfl, ?_⟩) ?_ ?_
             rotate_left
             ·intro w'
              go_simp
              with_reducible rfl
             rotate_left
             ·simp only [Act.put, sI, s0_, s1_, i64_w, i32_w]
              rfl
             refine pure_ (i := 8) (N := some 37) (v := ?_) (a' := ?_) #[true, true, true, true, true, false, true, true, true, false, false, false, false, false] rfl rfl (any_of HT_.out (by kernel_rfl)) (fun _ _ _ h => h) (Or.inl ⟨by rfl, ?_⟩) ?_ ?_
             rotate_left
             ·intro w'
              go_simp
              with_reducible rfl
             rotate_left
             ·simp only [Act.put, sI, s0_, s1_, i64_w, i32_w]
              rfl
             refine pure_ (i := 9) (N := some 38) (v := ?_) (a' := ?_) #[true, true, true, true, true, false, true, true, true, true, false, false, false, false] rfl rfl (any_of HT_.out (by kernel_rfl)) (fun _ _ _ h => h) (Or.inl ⟨by rfl, ?_⟩) ?_ ?_
             rotate_left
             ·intro w'
              go_simp
              with_reducible rfl
             rotate_left
             ·simp only [Act.put, sI, s0_, s1_, i64_w, i32_w]
              rfl
             refine take_ (i := 5) (N := some 34) (v := ?_) (a' := ?_) #[true, true, true, true, true, true, true, true, true, true, false, false, false, false] rfl rfl (take_ofW HT_.out HW_.out (by kernel_rfl)) (fun _ _ _ h => h) (Or.inl ⟨by rfl, ?_⟩) hHeld ?_ ?_
             rotate_left
             ·rintro w' ⟨s0, s1, s2, s3, s4, s5, s6⟩
              go_simp
              with_reducible rfl
             rotate_left
             ·simp only [Act.put, sI, s0_, s1_, i64_w, i32_w]
              rfl
             refine take_ (i := 10) (N := some 39) (v := ?_) (a' := ?_) #[true, true, true, true, true, true, true, true, true, true, true, false, false, false] rfl rfl (take_ofW HT_.out HW_.out (by kernel_rfl)) (fun _ _ _ h => h) (Or.inl ⟨by rfl, ?_⟩) hHeld ?_ ?_
             rotate_left
             ·rintro w' ⟨s0, s1, s2, s3, s4, s5, s6⟩
              go_simp
              with_reducible rfl
             rotate_left
             ·simp only [Act.put, sI, s0_, s1_, i64_w, i32_w]
              rfl
             refine one_ (i := 11) (N := some 40) #[true, true, true, true, true, true, true, true, true, true, true, true, false, false] rfl rfl (one_of HT_.out (by kernel_rfl)) (by decide) (fun K hK => ?_)
             refine goes_ Try.func87 (by kernel_rfl) rfl #[.agg #[.slice A1_0 l1_0.length c1_0, .slice A1_1 l1_1.length c1_1, .int .i64 a1_2], .agg #[.slice A255_0 ((rd_T83 t250 x7_1).f0.f0).length c255_0, .slice A255_1 ((rd_T83 t250 x7_1).f0.f1).length c255_1, .int .i64 ((rd_T83 t250 x7_1).f0.f2)]] (by rfl) rfl rfl (by (try simp only [mT, mC, mZ]); first | done | rfl) ?_
             with_reducible refine (spec_stLess.calls k1 _ _ l1_0 _ _ l1_1 a1_2 _ _ ((rd_T83 t250 x7_1).f0.f0) _ _ ((rd_T83 t250 x7_1).f0.f1) ((rd_T83 t250 x7_1).f0.f2) true _ ?side1 ?side2 ?side3 ?side4 ?side5 ?side6 ?side7 ?side8 A20.out).mono ?_
             (case side1 => repeat (first | exact (Kd.V_reads' HO_250000.out).2.2 | (with_reducible first | apply cA | apply cN | apply cD)))
             (case side2 => exact (Kd.V_reads' HO_250000.out).2.1)
             (case side3 => repeat (first | exact (Kd.V_reads' HO_250001.out).2.2 | (with_reducible first | apply cA | apply cN | apply cD)))
             (case side4 => exact (Kd.V_reads' HO_250001.out).2.1)
             (case side5 => repeat (first | exact (Kd.V_reads' HL255_0.out).2.2 | (with_reducible first | apply cA | apply cN | apply cD)))
             (case side6 => exact (Kd.V_reads' HL255_0.out).2.1)
             (case side7 => repeat (first | exact (Kd.V_reads' HL255_1.out).2.2 | (with_reducible first | apply cA | apply cN | apply cD)))
             (case side8 => exact (Kd.V_reads' HL255_1.out).2.1)
             rintro e w32 ⟨rfl, hb⟩
             have HS3_ := (hb.cell (World.block_lt_of_cell? _ _ (hHeld.2.2.2.1))).trans (hHeld.2.2.2.1)
             have HS4_ := (hb.cell (World.block_lt_of_cell? _ _ (hHeld.2.2.2.2.1))).trans (hHeld.2.2.2.2.1)
             have HS5_ := (hb.cell (World.block_lt_of_cell? _ _ (hHeld.2.2.2.2.2.1))).trans (hHeld.2.2.2.2.2.1)
             have HS6_ := (hb.cell (World.block_lt_of_cell? _ _ (hHeld.2.2.2.2.2.2))).trans (hHeld.2.2.2.2.2.2)
             refine ⟨_, rfl, ?_⟩
             have n0_ := am (Kd.N_below (by (with_reducible repeat (first | apply nA | apply nN | apply nD)); exact HO_0.out) hb)
             have n1_ := am (Kd.V_below (by (with_reducible repeat (first | apply vA | apply vN | apply vD)); exact HO_250000.out) hb)
             have n2_ := am (Kd.V_below (by (with_reducible repeat (first | apply vA | apply vN | apply vD)); exact HO_250001.out) hb)
             have n3_ := am (Kd.V_below (by (with_reducible repeat (first | apply vA | apply vN | apply vD)); exact HL255_0.out) hb)
             have n4_ := am (Kd.V_below (by (with_reducible repeat (first | apply vA | apply vN | apply vD)); exact HL255_1.out) hb)
             have nBX_ := am (BX_below (by (with_reducible repeat (first | refine BX_drewN ?_ _ | refine BX_drew ?_ | refine BX_alloc ?_ _)); exact BX.out) hb); have n5_ := am (blk_below (g := gb249) (by (with_reducible repeat (first | apply kB | apply kC | apply kE)); exact BK249.out) hb)
             have n6_ := am (Kd.C_below (by repeat (first | (with_reducible exact HR255_0.out) | (with_reducible first | apply cA | apply cN | apply cD) | exact HR255_0.out)) hb)
             have n7_ := am (Kd.C_below (by repeat (first | (with_reducible exact HR255_1.out) | (with_reducible first | apply cA | apply cN | apply cD) | exact HR255_1.out)) hb)
             have n8_ := am (below_step (by repeat (with_reducible first | exact HB.out | apply bA | apply bN | apply bD | refine bS ?_ GE249.out)) hb)
             clear HO_0 HO_250000 HO_250001 HL255_0 HL255_1 BK249 BX HR255_0 HR255_1 HB
             have HO_0 := n0_
             have HO_250000 := n1_
             have HO_250001 := n2_
             have HL255_0 := n3_
             have HL255_1 := n4_
             have BK249 := n5_; have BX := nBX_; clear nBX_
             have HR255_0 := n6_
             have HR255_1 := n7_
             have HB := n8_
             clear n0_ n1_ n2_ n3_ n4_ n5_ n6_ n7_ n8_
             (try clear hb)
             (try clear hb2)
             (try clear hk)
             (try clear hi)
             refine hK.out _ _ ⟨(blk_cell BK249.out 0).trans rfl, (blk_cell BK249.out 1).trans rfl, (blk_cell BK249.out 2).trans rfl, HS3_, HS4_, HS5_, HS6_⟩ (fun hHeld => ?_)
             clear hK K
             refine norm_ (a' := ?_) ?_ ?_
             rotate_left
             ·show Act.put _ (some 40) _ = _
              simp only [Act.put, sI, s0_, s1_, i64_w, i32_w]
              rfl
             refine pure_ (i := 12) (N := some 41) (v := ?_) (a' := ?_) #[true, true, true, true, true, true, true, true, true, true, true, true, true, false] rfl rfl (any_of HT_.out (by kernel_rfl)) (fun _ _ _ h => h) (Or.inl ⟨by rfl, ?_⟩) ?_ ?_
             rotate_left
             ·intro w'
              go_simp
              with_reducible rfl
             rotate_left
             ·simp only [Act.put, sI, s0_, s1_, i64_w, i32_w]
              rfl
             refine pure_ (i := 13) (N := some 42) (v := ?_) (a' := ?_) #[true, true, true, true, true, true, true, true, true, true, true, true, true, true] rfl rfl (any_of HT_.out (by kernel_rfl)) (fun _ _ _ h => h) (Or.inl ⟨by rfl, ?_⟩) ?_ ?_
             rotate_left
             ·intro w'
              go_simp
              with_reducible rfl
             rotate_left
             ·simp only [Act.put, sI, s0_, s1_, i64_w, i32_w]
              rfl
             refine done_ (done_of HT_.out (by kernel_rfl)) ?_
             try go_wp2_with (first | ((with_reducible refine gate_builtin (b := .append) (xs := #[.tmp 53, .tmp 55]) rfl ?_); at_builtin; refine Kd.N_append k83 (w0 := w0) w0.heap.size rfl (.tmp 53) (.tmp 55) 80 83 (.agg #[(.slice none 0 0), (.slice none 0 0), (.int .i64 0), (.int .i64 0)]) 64 rfl Try.underlying80 info83 rfl (by decide) (by omega) (.slice (some ad255) t250.length c0) t250 (⟨(⟨([] : List Int), ([] : List Int), 0⟩ : S27), 0⟩ : S83) [.slice none 0 0, .slice none 0 0, .int .i64 0, .int .i64 0] (fun k_ => ((P1_0_ k_ ∨ P1_1_ k_) ∨ w.heap.size ≤ k_) ∧ k_ ≠ gb249) (fun k_ => ((fun k_ => ((P1_0_ k_ ∨ P1_1_ k_) ∨ w.heap.size ≤ k_) ∧ k_ ≠ gb249)) k_ ∧ some k_ ≠ (.slice (some ad255) t250.length c0 : Value).ownBlock) rfl rfl ?aP (fun _ hk => hk) ?aF ?aO ?aB ?aS ?aL ?_; (case aP => exact (k83_mkF _ _ (⟨(⟨([] : List Int), ([] : List Int), 0⟩ : S27), 0⟩ : S83) (Nat.le_refl _) (Kd.F_nil _ _ _) (Nat.le_refl _) (Kd.F_nil _ _ _))); (case aB => exact (by repeat (with_reducible first | exact HB.out | apply bA | apply bN | apply bD | refine bS ?_ GE249.out))); (case aF => exact (fun k_ hk => ⟨(.inr (Nat.le_trans (BXG.size (by (with_reducible repeat (first | refine BX_drewN ?_ _ | refine BX_drew ?_ | refine BX_alloc ?_ _)); exact BX.out)) hk)), Kd.freshB (g := gb249) (by (with_reducible repeat (first | apply kB | apply kC | apply kE)); exact BK249.out) k_ hk⟩)); (case aO => exact (by (with_reducible repeat (first | apply nA | apply nN | apply nD)); exact HO_0.out)); (case aS => exact (below_size (by repeat (with_reducible first | exact HB.out | apply bA | apply bN | apply bD | refine bS ?_ GE249.out)))); (case aL => have := LMc22.out; omega); intro v258 w33 ho hb hg hat; rw [← Ny257.out] at ho; have n0_ := am (Kd.V_afterv (ok := (fun k_ => ((P1_0_ k_ ∨ P1_1_ k_) ∨ w.heap.size ≤ k_) ∧ k_ ≠ gb249)) (by (with_reducible repeat (first | apply vA | apply vN | apply vD)); exact Kd.V_mono HO_250000.out (fun _ hk => ⟨⟨hk.1, hk.2.2⟩, hk.2.1⟩)) hg hat); have n1_ := am (Kd.V_afterv (ok := (fun k_ => ((P1_0_ k_ ∨ P1_1_ k_) ∨ w.heap.size ≤ k_) ∧ k_ ≠ gb249)) (by (with_reducible repeat (first | apply vA | apply vN | apply vD)); exact Kd.V_mono HO_250001.out (fun _ hk => ⟨⟨hk.1, hk.2.2⟩, hk.2.1⟩)) hg hat); have nBX_ := am (BX_grown (by (with_reducible repeat (first | refine BX_drewN ?_ _ | refine BX_drew ?_ | refine BX_alloc ?_ _)); exact BX.out) hg hat); have n2_ := am (blk_grown (g := gb249) (by (with_reducible repeat (first | apply kB | apply kC | apply kE)); exact BK249.out) hg (Kd.N_ne HO_0.out BK249.out (by decide))); have n3_ := am (Kd.V_afterv (ok := (fun k_ => ((P1_0_ k_ ∨ P1_1_ k_) ∨ w.heap.size ≤ k_) ∧ k_ ≠ gb249)) (by (with_reducible repeat (first | apply vA | apply vN | apply vD)); exact HL255_0.out) hg hat); have n4_ := am (Kd.V_afterv (ok := (fun k_ => ((P1_0_ k_ ∨ P1_1_ k_) ∨ w.heap.size ≤ k_) ∧ k_ ≠ gb249)) (by (with_reducible repeat (first | apply vA | apply vN | apply vD)); exact HL255_1.out) hg hat); have n5_ := am (hb); have n6_ := am (ho); clear HO_250000; clear HO_250001; clear BK249 BX; clear HL255_0; clear HL255_1; clear HB; clear HO_0; have HO_250000 := n0_; have HO_250001 := n1_; have BK249 := n2_; have BX := nBX_; clear nBX_; have HL255_0 := n3_; have HL255_1 := n4_; have HB := n5_; have HO259 := n6_; clear n0_ n1_ n2_ n3_ n4_ n5_ n6_; clear ho hb hg hat))
             have n0_ := am (vD HO_250000.out)
             have n1_ := am (vD HO_250001.out)
             have n2_ := am (vD HL255_0.out)
             have n3_ := am (vD HL255_1.out)
             have n4_ := am (nD HO259.out)
             have nBX_ := am (BX_drew BX.out); have n5_ := am (kC BK249.out)
             have n6_ := am (below_drew1 HB.out)
             clear HO_250000 HO_250001 HL255_0 HL255_1 HO259 BK249 BX HB
             have HO_250000 := n0_
             have HO_250001 := n1_
             have HL255_0 := n2_
             have HL255_1 := n3_
             have HO259 := n4_
             have BK249 := n5_; have BX := nBX_; clear nBX_
             have HB := n6_
             clear n0_ n1_ n2_ n3_ n4_ n5_ n6_
             obtain ⟨Ao36, co36, eo36⟩ := Kd.N_slice HO259.out
             (first | subst eo36 | (injection eo36 with f1_ f2_ f3_; have f4_ := f1_.symm; have f5_ := f3_.symm; clear f1_ f2_ f3_; subst f4_; subst f5_))
             have q35 : ((ji23) : Int) ≤ ((y257.length : Int) : Int) := ofd (by assumption)
             obtain ⟨i035, hi035, _, hsz35, _⟩ := info_parts info83
             have hroom35 : y257.length ≤ co36 := (Kd.N_reads' HO259.out).2.1
             have hC35 : Kd.F k83 _ _ Ao36 y257.length y257 := (Kd.V_at (base := w0.heap.size) (Kd.N_V HO259.out)).2.2
             have q035 : (0 : Int) ≤ ((ji23) : Int) := ofd (by assumption)
             have hcut35 := cut_from (P := Try.prog) 80 83 .i64 Try.underlying80 hi035 4 hsz35 Ao36 y257.length co36 (ji23) q035 q35
             have hr35 := Kd.F_cut (m := ((ji23) : Int).toNat) (c := co36) hC35 (by omega) hroom35
             obtain ⟨A35, hA35⟩ : ∃ A1, A1 = (if co36 = ((ji23) : Int).toNat then Ao36 else (Ao36 : Option Addr).map (·.add (((ji23) : Int).toNat * 4))) := ⟨_, rfl⟩
             obtain ⟨c35, hc35⟩ : ∃ c1, c1 = co36 - ((ji23) : Int).toNat := ⟨_, rfl⟩
             have hy35 : y260.length = y257.length - ((ji23) : Int).toNat := (by rw [Ny260.out, List.length_drop] <;> omega)
             rw [show (y257).drop ((ji23) : Int).toNat = y260 from Ny260.out.symm] at hr35
             replace hr35 : Kd.F k83 _ _ A35 y260.length y260 := (by rw [hA35]; exact hr35)
             rw [← hy35, ← hA35, ← hc35] at hcut35
             have HO264 := am (show Kd.V k83 83 _ w0.heap.size _ (.slice A35 y260.length c35) y260 from Kd.V_mk (by rw [hy35, hc35]; exact Nat.sub_le_sub_right hroom35 _) hr35)
             have HC264 := am (show y260.length ≤ c35 from by rw [hy35, hc35]; exact Nat.sub_le_sub_right hroom35 _)
             clear hr35 hC35 hroom35 hi035 hsz35 hc35
             have KY35 := am hy35
             have KA35 := am hA35
             clear hy35 hA35
             replace q35 := eq_true q35
             have q37 : (x7_1 : Int) ≤ ((y257.length : Int) : Int) := ofd (by assumption)
             obtain ⟨i037, hi037, _, hsz37, _⟩ := info_parts info83
             have hroom37 : y257.length ≤ co36 := (Kd.N_reads' HO259.out).2.1
             have hC37 : Kd.F k83 _ _ Ao36 y257.length y257 := (Kd.V_at (base := w0.heap.size) (Kd.N_V HO259.out)).2.2
             have q037 : (0 : Int) ≤ (x7_1 : Int) := ofd (by assumption)
             have hcut37 := cut_from (P := Try.prog) 80 83 .i64 Try.underlying80 hi037 4 hsz37 Ao36 y257.length co36 x7_1 q037 q37
             have hr37 := Kd.F_cut (m := (x7_1 : Int).toNat) (c := co36) hC37 (by omega) hroom37
             obtain ⟨A37, hA37⟩ : ∃ A1, A1 = (if co36 = (x7_1 : Int).toNat then Ao36 else (Ao36 : Option Addr).map (·.add ((x7_1 : Int).toNat * 4))) := ⟨_, rfl⟩
             obtain ⟨c37, hc37⟩ : ∃ c1, c1 = co36 - (x7_1 : Int).toNat := ⟨_, rfl⟩
             have hy37 : y265.length = y257.length - (x7_1 : Int).toNat := (by rw [Ny265.out, List.length_drop] <;> omega)
             rw [show (y257).drop (x7_1 : Int).toNat = y265 from Ny265.out.symm] at hr37
             replace hr37 : Kd.F k83 _ _ A37 y265.length y265 := (by rw [hA37]; exact hr37)
             rw [← hy37, ← hA37, ← hc37] at hcut37
             have HO269 := am (show Kd.V k83 83 _ w0.heap.size _ (.slice A37 y265.length c37) y265 from Kd.V_mk (by rw [hy37, hc37]; exact Nat.sub_le_sub_right hroom37 _) hr37)
             have HC269 := am (show y265.length ≤ c37 from by rw [hy37, hc37]; exact Nat.sub_le_sub_right hroom37 _)
             clear hr37 hC37 hroom37 hi037 hsz37 hc37
             have KY37 := am hy37
             have KA37 := am hA37
             clear hy37 hA37
             replace q37 := eq_true q37
             refine start_ (n := 8) (S := fun w' => True) (ds := []) #[false, false, false, false, false, false, false, false] (by kernel_rfl) rfl rfl trivial (fun hHeld => ?_); refine with_tabW spec_stPut.tab11 spec_stPut.bits11 (fun HT_ HW_ => ?_)
             generalize w33.drew = w34 at HO_250000 HO_250001 HL255_0 HL255_1 HO259 BK249 BX HB HO264 HO269 hHeld ⊢
             refine pure_ (i := 0) (N := some 57) (v := ?_) (a' := ?_) #[true, false, false, false, false, false, false, false] rfl rfl (any_of HT_.out (by kernel_rfl)) (fun _ _ _ h => h) (Or.inl ⟨by rfl, ?_⟩) ?_ ?_
             rotate_left
             ·intro w'
              go_simp
              with_reducible rfl
             rotate_left
             ·simp only [Act.put, sI, s0_, s1_, i64_w, i32_w]
              rfl
             refine pure_ (i := 1) (N := some 58) (v := ?_) (a' := ?_) #[true, true, false, false, false, false, false, false] rfl rfl (any_of HT_.out (by kernel_rfl)) (fun _ _ _ h => h) (Or.inl ⟨by rfl, ?_⟩) ?_ ?_
             rotate_left
             ·intro w'
              go_simp
              with_reducible rfl
             rotate_left
             ·simp only [Act.put, sI, s0_, s1_, i64_w, i32_w]
              rfl
             refine pure_ (i := 2) (N := some 59) (v := ?_) (a' := ?_) #[true, true, true, false, false, false, false, false] rfl rfl (any_of HT_.out (by kernel_rfl)) (fun _ _ _ h => h) (Or.inl ⟨by rfl, ?_⟩) ?_ ?_
             rotate_left
             ·intro w'
              go_simp
              with_reducible rfl
             rotate_left
             ·simp only [Act.put, sI, s0_, s1_, i64_w, i32_w]
              rfl
             refine pure_ (i := 3) (N := some 60) (v := ?_) (a' := ?_) #[true, true, true, true, false, false, false, false] rfl rfl (any_of HT_.out (by kernel_rfl)) (fun _ _ _ h => h) (Or.inl ⟨by rfl, ?_⟩) ?_ ?_
             rotate_left
             ·intro w'
              go_simp
              with_reducible rfl
             rotate_left
             ·simp only [Act.put, sI, s0_, s1_, i64_w, i32_w]
              rfl
             refine pure_ (i := 4) (N := some 61) (v := ?_) (a' := ?_) #[true, true, true, true, true, false, false, false] rfl rfl (any_of HT_.out (by kernel_rfl)) (fun _ _ _ h => h) (Or.inl ⟨by rfl, ?_⟩) ?_ ?_
             rotate_left
             ·intro w'
              go_simp
              with_reducible rfl
             rotate_left
             ·simp only [Act.put, sI, s0_, s1_, i64_w, i32_w]
              rfl
             refine pure_ (i := 5) (N := some 62) (v := ?_) (a' := ?_) #[true, true, true, true, true, true, false, false] rfl rfl (any_of HT_.out (by kernel_rfl)) (fun _ _ _ h => h) (Or.inl ⟨by rfl, ?_⟩) ?_ ?_
             rotate_left
             ·intro w'
              go_simp
              with_reducible rfl
             rotate_left
             ·simp only [Act.put, sI, s0_, s1_, i64_w, i32_w]
              rfl
             refine pure_ (i := 6) (N := some 63) (v := ?_) (a' := ?_) #[true, true, true, true, true, true, true, false] rfl rfl (any_of HT_.out (by kernel_rfl)) (fun _ _ _ h => h) (Or.inl ⟨by rfl, ?_⟩) ?_ ?_
             rotate_left
             ·intro w'
              go_simp
              with_reducible rfl
             rotate_left
             ·simp only [Act.put, sI, s0_, s1_, i64_w, i32_w]
              rfl
             refine one_ (i := 7) (N := some 64) #[true, true, true, true, true, true, true, true] rfl rfl (one_of HT_.out (by kernel_rfl)) (by decide) (fun K hK => ?_)
             have q0_ : (x7_1 : Int) ≤ (y257.length : Int) := ofd (by assumption)
             have q1_ : (0 : Int) ≤ x7_1 := ofd (by assumption)
             have q2_ : (ji23 : Int) ≤ (y257.length : Int) := ofd (by assumption)
             have e_ : (ji23).toNat = (x7_1 : Int).toNat + 1 := by (have h1_ : wrap64 (x7_1 + 1) = ji23 := (i64_w _).symm.trans hji23w; have h2_ := LMc28.out; unfold wrap64 at h1_; omega)
             have hlt_ : (x7_1 : Int).toNat < y257.length := by omega
             refine N_shift_step k83 rfl (w0 := w0) w0.heap.size (by rfl) (.tmp 60) (.tmp 63) 80 83 rfl Try.underlying80 (by kernel_rfl) Ao36 A35 A37 co36 c35 c37 _ _ y257 (x7_1 : Int).toNat (ji23 : Int).toNat (fun k_ => ((P1_0_ k_ ∨ P1_1_ k_) ∨ w.heap.size ≤ k_) ∧ k_ ≠ gb249) rfl rfl hlt_ e_ KY35.out KY37.out KA35.out KA37.out ?aO ?aB ?aS ?_
             (case aO => exact (by (with_reducible repeat (first | apply nA | apply nN | apply nD)); exact HO259.out))
             (case aB => exact (by repeat (with_reducible first | exact HB.out | apply bA | apply bN | apply bD | refine bS ?_ GE249.out)))
             (case aS => exact (below_size (by repeat (with_reducible first | exact HB.out | apply bA | apply bN | apply bD | refine bS ?_ GE249.out))))
             intro v271 w38 ho hb hg hat ev_
             rw [← Ny270.out] at ho ev_
             have HLS_ : Aside0 (y257.length = y270.length) := ⟨by rw [Ny270.out]; exact (shiftL_len _ _ hlt_).symm⟩
             clear q0_ q1_ q2_ e_ hlt_
             have n0_ := am (Kd.V_afterv (ok := (fun k_ => ((P1_0_ k_ ∨ P1_1_ k_) ∨ w.heap.size ≤ k_) ∧ k_ ≠ gb249)) (by (with_reducible repeat (first | apply vA | apply vN | apply vD)); exact HO_250000.out) hg hat)
             have n1_ := am (Kd.V_afterv (ok := (fun k_ => ((P1_0_ k_ ∨ P1_1_ k_) ∨ w.heap.size ≤ k_) ∧ k_ ≠ gb249)) (by (with_reducible repeat (first | apply vA | apply vN | apply vD)); exact HO_250001.out) hg hat)
             have nBX_ := am (BX_grown (by (with_reducible repeat (first | refine BX_drewN ?_ _ | refine BX_drew ?_ | refine BX_alloc ?_ _)); exact BX.out) hg hat); have n2_ := am (blk_grown (g := gb249) (by (with_reducible repeat (first | apply kB | apply kC | apply kE)); exact BK249.out) hg (Kd.N_ne HO259.out BK249.out (by decide)))
             have n3_ := am (Kd.V_afterv (ok := (fun k_ => ((P1_0_ k_ ∨ P1_1_ k_) ∨ w.heap.size ≤ k_) ∧ k_ ≠ gb249)) (by (with_reducible repeat (first | apply vA | apply vN | apply vD)); exact HL255_0.out) hg hat)
             have n4_ := am (Kd.V_afterv (ok := (fun k_ => ((P1_0_ k_ ∨ P1_1_ k_) ∨ w.heap.size ≤ k_) ∧ k_ ≠ gb249)) (by (with_reducible repeat (first | apply vA | apply vN | apply vD)); exact HL255_1.out) hg hat)
             have n5_ := am (hb)
             have n6_ := am (ho)
             clear HO_250000 HO_250001 BK249 BX HL255_0 HL255_1 HB HO259
             have HO_250000 := n0_
             have HO_250001 := n1_
             have BK249 := n2_; have BX := nBX_; clear nBX_
             have HL255_0 := n3_
             have HL255_1 := n4_
             have HB := n5_
             have HO272 := n6_
             clear n0_ n1_ n2_ n3_ n4_ n5_ n6_ ho hb hg hat
             refine hK.out _ _ trivial (fun hHeld => ?_)
             clear hK K
             refine norm_ (a' := ?_) ?_ ?_
             rotate_left
             ·show Act.put _ (some 64) _ = _
              simp only [Act.put, sI, s0_, s1_, i64_w, i32_w]
              rfl
             refine done_ (done_of HT_.out (by kernel_rfl)) ?_
             rw [HLS_.out]
             have hcz39_0 : w38.cell? ⟨gb249, 0, none⟩ = some (.slice A1_0 l1_0.length c1_0) := (blk_cell BK249.out 0).trans rfl
             have hcz39_1 : w38.cell? ⟨gb249, 1, none⟩ = some (.slice A1_1 l1_1.length c1_1) := (blk_cell BK249.out 1).trans rfl
             have hcz39_2 : w38.cell? ⟨gb249, 2, none⟩ = some (.int .i64 a1_2) := (blk_cell BK249.out 2).trans rfl
             have hfz39_0 := blk_frozen BK249.out 0
             have hfz39_1 := blk_frozen BK249.out 1
             have hfz39_2 := blk_frozen BK249.out 2
             have p30 : 0 ≤ (x7_1 : Int) := ofd (by assumption)
             have q30 : (x7_1 : Int) < ((y270.length : Int) : Int) := ofd (by assumption)
             obtain ⟨go30, co30, eo30, gb30, gl30, cl30, HG30⟩ := Kd.N_form HO272.out (by omega)
             (first | cases eo30 | (injection eo30 with ea_ en_ ec_; (first | subst ea_ | (injection ea_ with ea_; subst ea_)); subst ec_; clear en_))
             (injection ev_ with f1_ f2_ f3_; clear f2_; subst f1_; subst f3_)
             have GB30 := am gb30
             have GG30 := am HG30
             clear gb30 gl30 HG30
             obtain ⟨ce30, hcl30, hM30, hcc30, hfr30⟩ := Kd.N_elem HO272.out z83 (x7_1 : Int) p30 q30
             obtain ⟨ua30_0, uc30_0, ua30_1, uc30_1, rfl, ul30_0, ge30_0, ul30_1, ge30_1⟩ := k83_openF hM30
             have hx30_0 : w38.cell? ⟨go30, (x7_1 : Int).toNat * 4, none⟩ = some (.slice ua30_0 ((rd_T83 y270 x7_1).f0.f0).length uc30_0) := hcc30 0 _ rfl
             have hx30_1 : w38.cell? ⟨go30, (x7_1 : Int).toNat * 4 + 1, none⟩ = some (.slice ua30_1 ((rd_T83 y270 x7_1).f0.f1).length uc30_1) := hcc30 1 _ rfl
             have hx30_2 : w38.cell? ⟨go30, (x7_1 : Int).toNat * 4 + 2, none⟩ = some (.int .i64 ((rd_T83 y270 x7_1).f0.f2)) := hcc30 2 _ rfl
             have hx30_3 : w38.cell? ⟨go30, (x7_1 : Int).toNat * 4 + 3, none⟩ = some (.int .i64 ((rd_T83 y270 x7_1).f1)) := hcc30 3 _ rfl
             have hf30_0 : w38.frozen? ⟨go30, (x7_1 : Int).toNat * 4, none⟩ = false := hfr30 0
             have hf30_1 : w38.frozen? ⟨go30, (x7_1 : Int).toNat * 4 + 1, none⟩ = false := hfr30 1
             have hf30_2 : w38.frozen? ⟨go30, (x7_1 : Int).toNat * 4 + 2, none⟩ = false := hfr30 2
             have hf30_3 : w38.frozen? ⟨go30, (x7_1 : Int).toNat * 4 + 3, none⟩ = false := hfr30 3
             clear hcl30 hcc30 hfr30 hM30
             replace p30 := eq_true p30
             replace q30 := eq_true q30
             have HX40 := am (show Kd.N k83 83 w38 w0.heap.size (fun k_ => ((P1_0_ k_ ∨ P1_1_ k_) ∨ w.heap.size ≤ k_) ∧ k_ ≠ gb249) (.slice (some ⟨go30, 0, none⟩) y270.length co30) y270 from (by (with_reducible repeat (first | apply nA | apply nN | apply nD)); exact HO272.out))
             obtain ⟨ce40, hcl40, hM40, hcc40, hfr40⟩ := Kd.N_elem HX40.out z83 (x7_1 : Int) (ofd (by assumption)) (by have h_ : (x7_1 : Int) < ((y270.length : Int) : Int) := ofd (by assumption); first | exact h_ | (have e_ := (Kd.N_reads' HO272.out).1; omega) | simpa using h_)
             obtain ⟨ua40_0, uc40_0, ua40_1, uc40_1, rfl, ul40_0, ge40_0, ul40_1, ge40_1⟩ := k83_openF hM40
             have HP40 := Kd.N_seg HX40.out (x7_1 : Int) (ofd (by assumption)) (by have h_ : (x7_1 : Int) < ((y270.length : Int) : Int) := ofd (by assumption); first | exact h_ | (have e_ := (Kd.N_reads' HO272.out).1; omega) | simpa using h_) (seg := [.slice A1_0 l1_0.length c1_0, .slice A1_1 l1_1.length c1_1, .int .i64 a1_2, .int .i64 a2]) (j := 0) hcl40 hcc40 (show 4 ≤ 4 from by decide) (x' := (⟨(⟨l1_0, l1_1, a1_2⟩ : S27), a2⟩ : S83)) (k83_mkF _ _ (⟨(⟨l1_0, l1_1, a1_2⟩ : S27), a2⟩ : S83) (Kd.V_reads' (Kd.V_mono (ok' := (fun k_ => ((fun k_ => ((P1_0_ k_ ∨ P1_1_ k_) ∨ w.heap.size ≤ k_) ∧ k_ ≠ gb249)) k_ ∧ k_ ≠ go30)) (HO_250000.out) (fun k_ hk => ⟨⟨hk.1.1, hk.1.2⟩, fun e_ => (hk.2) (by rw [e_]; rfl)⟩))).2.1 (Kd.V_F (Kd.V_mono (ok' := (fun k_ => ((fun k_ => ((P1_0_ k_ ∨ P1_1_ k_) ∨ w.heap.size ≤ k_) ∧ k_ ≠ gb249)) k_ ∧ k_ ≠ go30)) (HO_250000.out) (fun k_ hk => ⟨⟨hk.1.1, hk.1.2⟩, fun e_ => (hk.2) (by rw [e_]; rfl)⟩))) (Kd.V_reads' (Kd.V_mono (ok' := (fun k_ => ((fun k_ => ((P1_0_ k_ ∨ P1_1_ k_) ∨ w.heap.size ≤ k_) ∧ k_ ≠ gb249)) k_ ∧ k_ ≠ go30)) (HO_250001.out) (fun k_ hk => ⟨⟨hk.1.1, hk.1.2⟩, fun e_ => (hk.2) (by rw [e_]; rfl)⟩))).2.1 (Kd.V_F (Kd.V_mono (ok' := (fun k_ => ((fun k_ => ((P1_0_ k_ ∨ P1_1_ k_) ∨ w.heap.size ≤ k_) ∧ k_ ≠ gb249)) k_ ∧ k_ ≠ go30)) (HO_250001.out) (fun k_ hk => ⟨⟨hk.1.1, hk.1.2⟩, fun e_ => (hk.2) (by rw [e_]; rfl)⟩)))) (fun _ hk => hk)
             have hx40_0 := hcc40 0 _ rfl
             (try simp only [show (k83).sz = 4 from rfl, Nat.mul_one, Nat.add_zero] at hx40_0)
             have hf40_0 := hfr40 0
             (try simp only [show (k83).sz = 4 from rfl, Nat.mul_one, Nat.add_zero] at hf40_0)
             have hx40_1 := hcc40 1 _ rfl
             (try simp only [show (k83).sz = 4 from rfl, Nat.mul_one, Nat.add_zero] at hx40_1)
             have hf40_1 := hfr40 1
             (try simp only [show (k83).sz = 4 from rfl, Nat.mul_one, Nat.add_zero] at hf40_1)
             have hx40_2 := hcc40 2 _ rfl
             (try simp only [show (k83).sz = 4 from rfl, Nat.mul_one, Nat.add_zero] at hx40_2)
             have hf40_2 := hfr40 2
             (try simp only [show (k83).sz = 4 from rfl, Nat.mul_one, Nat.add_zero] at hf40_2)
             have hx40_3 := hcc40 3 _ rfl
             (try simp only [show (k83).sz = 4 from rfl, Nat.mul_one, Nat.add_zero] at hx40_3)
             have hf40_3 := hfr40 3
             (try simp only [show (k83).sz = 4 from rfl, Nat.mul_one, Nat.add_zero] at hf40_3)
             clear hcl40 hcc40 hfr40 hM40
             try go_wp2_with (first | ((with_reducible refine gate_store (t := 83) (p := 70) rfl ?_); refine store_event (t := 83) (p := 70) (v := ?vo_w41) (w1 := ((((w38.setCell ⟨go30, (x7_1 : Int).toNat * 4, none⟩ (.slice A1_0 l1_0.length c1_0)).setCell ⟨go30, (x7_1 : Int).toNat * 4 + 1, none⟩ (.slice A1_1 l1_1.length c1_1)).setCell ⟨go30, (x7_1 : Int).toNat * 4 + 2, none⟩ (.int .i64 a1_2)).setCell ⟨go30, (x7_1 : Int).toNat * 4 + 3, none⟩ (.int .i64 a2))) ?hg ?ho ?hn ?hr ?_; (case ho => rfl); (case hg => rfl); (case hn => rfl); (case hr => first | (go_simp; done) | (go_simp; rfl)); intro w41 hw; have hg : w38.grownBy w41 (some go30) := (by rw [hw]; exact HP40.2); have hp_ : Kd.N k83 83 w41 w0.heap.size (fun k_ => ((P1_0_ k_ ∨ P1_1_ k_) ∨ w.heap.size ≤ k_) ∧ k_ ≠ gb249) (.slice (some ⟨go30, 0, none⟩) y270.length co30) y273 := (by rw [hw, Ny273.out]; exact HP40.1); clear HP40; have n0_ := am (Kd.V_afterv (v := (.slice (some ⟨go30, 0, none⟩) y270.length co30)) (v1 := (.slice (some ⟨go30, 0, none⟩) y270.length co30)) (ok := (fun k_ => ((P1_0_ k_ ∨ P1_1_ k_) ∨ w.heap.size ≤ k_) ∧ k_ ≠ gb249)) (by (with_reducible repeat (first | apply vA | apply vN | apply vD)); exact HO_250000.out) hg (.inl rfl)); have n1_ := am (Kd.V_afterv (v := (.slice (some ⟨go30, 0, none⟩) y270.length co30)) (v1 := (.slice (some ⟨go30, 0, none⟩) y270.length co30)) (ok := (fun k_ => ((P1_0_ k_ ∨ P1_1_ k_) ∨ w.heap.size ≤ k_) ∧ k_ ≠ gb249)) (by (with_reducible repeat (first | apply vA | apply vN | apply vD)); exact HO_250001.out) hg (.inl rfl)); have nBX_ := am (BX_same (v := (.slice (some ⟨go30, 0, none⟩) y270.length co30)) (by (with_reducible repeat (first | refine BX_drewN ?_ _ | refine BX_drew ?_ | refine BX_alloc ?_ _)); exact BX.out) hg); have n2_ := am (blk_grown (g := gb249) (by (with_reducible repeat (first | apply kB | apply kC | apply kE)); exact BK249.out) hg (Kd.N_ne HO272.out BK249.out (by decide))); have n3_ := am (Kd.V_afterv (v := (.slice (some ⟨go30, 0, none⟩) y270.length co30)) (v1 := (.slice (some ⟨go30, 0, none⟩) y270.length co30)) (ok := (fun k_ => ((P1_0_ k_ ∨ P1_1_ k_) ∨ w.heap.size ≤ k_) ∧ k_ ≠ gb249)) (by (with_reducible repeat (first | apply vA | apply vN | apply vD)); exact HL255_0.out) hg (.inl rfl)); have n4_ := am (Kd.V_afterv (v := (.slice (some ⟨go30, 0, none⟩) y270.length co30)) (v1 := (.slice (some ⟨go30, 0, none⟩) y270.length co30)) (ok := (fun k_ => ((P1_0_ k_ ∨ P1_1_ k_) ∨ w.heap.size ≤ k_) ∧ k_ ≠ gb249)) (by (with_reducible repeat (first | apply vA | apply vN | apply vD)); exact HL255_1.out) hg (.inl rfl)); have n5_ := am (hp_); have n6_ := am ((by rw [hw]; exact bS (bS (bS (bS (HB.out) GB30.out) GB30.out) GB30.out) GB30.out : Below w0.heap.size w0 w41)); clear HO_250000; clear HO_250001; clear BK249 BX; clear HL255_0; clear HL255_1; clear HO272; clear HB; have HO_250000 := n0_; have HO_250001 := n1_; have BK249 := n2_; have BX := nBX_; clear nBX_; have HL255_0 := n3_; have HL255_1 := n4_; have HO272 := n5_; have HB := n6_; clear n0_ n1_ n2_ n3_ n4_ n5_ n6_; clear hg hw hp_))
             go_ret
             exact ⟨_, by first | rfl | (simp [errW_none, errW_some] <;> rfl) | (simp only [← hji23]; first | rfl | (simp [errW_none, errW_some] <;> rfl)) | (simp [*, errW_none, errW_some] <;> rfl), by (with_reducible repeat (first | apply nA | apply nN | apply nD)); exact Kd.N_mono HO272.out (fun _ hk => hk.1), by repeat (with_reducible first | exact HB.out | apply bA | apply bN | apply bD | refine bS ?_ GE249.out), by (with_reducible repeat (first | refine BX_drewN ?_ _ | refine BX_drew ?_ | refine BX_alloc ?_ _)); exact BX.out⟩
            ·rw [if_neg c29] at H
             exact absurd H (by simp)
           ·rw [if_neg c28] at H
            exact absurd H (by simp)
          ·rw [if_neg c27] at H
           exact absurd H (by simp)
         ·rw [if_neg c25] at H
          exact absurd H (by simp)
        ·rw [if_neg c24] at H
         exact absurd H (by simp)
       ·rw [if_neg c22] at H
        exact absurd H (by simp)
      ·replace c21 := Bool.eq_false_iff.mpr c21
       subst c21
       have H1 : (some (t250.set (x7_1 : Int).toNat (⟨(⟨(rd_T83 t250 x7_1).f0.f0, (rd_T83 t250 x7_1).f0.f1, (rd_T83 t250 x7_1).f0.f2⟩ : S27), wrap64 (((rd_T83 t250 x7_1).f1) + a2)⟩ : S83))) = some r := by rw [if_neg (show ¬ (false = true) by decide)] at H; exact H
       clear H
       have H := H1
       clear H1
       obtain ⟨y275, hy275⟩ : ∃ y_ : List (S83), y_ = (t250.set (x7_1 : Int).toNat (⟨(⟨(rd_T83 t250 x7_1).f0.f0, (rd_T83 t250 x7_1).f0.f1, (rd_T83 t250 x7_1).f0.f2⟩ : S27), wrap64 (((rd_T83 t250 x7_1).f1) + a2)⟩ : S83)) := ⟨_, rfl⟩
       replace H : (some y275) = some r := by first | (rw [hy275]; with_reducible exact H) | (have H2_ := (Option.bind_some _ _).symm.trans H; rw [hy275]; with_reducible exact H2_) | (have H2_ := (Option.bind_some _ _).symm.trans H; with_reducible exact H2_) | with_reducible exact H | (rw [hy275]; exact H) | exact H
       have Ny275 := am hy275
       clear hy275
       obtain rfl := Option.some.inj H
       try go_wp2
       have n0_ := am (nD HO_0.out)
       have n1_ := am (vD HO_250000.out)
       have n2_ := am (vD HO_250001.out)
       have nBX_ := am (BX_drew BX.out); have n3_ := am (kC BK249.out)
       have n4_ := am (below_drew1 HB.out)
       clear HO_0 HO_250000 HO_250001 BK249 BX HB
       have HO_0 := n0_
       have HO_250000 := n1_
       have HO_250001 := n2_
       have BK249 := n3_; have BX := nBX_; clear nBX_
       have HB := n4_
       clear n0_ n1_ n2_ n3_ n4_
       have p255 : 0 ≤ (x7_1 : Int) := ofd (by assumption)
       have q255 : x7_1 < (t250.length : Int) := ofd (by assumption)
       obtain ⟨ad255, A255_0, c255_0, A255_1, c255_1, e255, hx255_0, hx255_1, hx255_2, hx255_3, hl255_0, hi255_0, hl255_1, hi255_1⟩ := at_T83 (Kd.N_reads' HO_0.out).2.2 x7_1 p255 q255
       cases e255
       obtain ⟨ce255, hce255, hMe255, hcc255⟩ := Kd.N_get HO_0.out z83 x7_1 p255 (by first | exact q255 | exact ofd (by assumption) | (have e_ := (Kd.N_reads' HO_0.out).1; omega))
       obtain ⟨ua255_0, uc255_0, ua255_1, uc255_1, rfl, ul255_0, ge255_0, ul255_1, ge255_1⟩ := k83_openF hMe255
       have hv255_0 := hcc255 0 _ rfl
       rw [Nat.add_zero] at hv255_0
       replace hv255_0 := Option.some.inj (hv255_0.symm.trans hx255_0)
       injection hv255_0 with hva_ hvn_ hvc_
       rw [hva_] at ge255_0
       rw [hvc_] at ul255_0
       have HL255_0 := am (show Kd.V (Kd.int .i64) 3 _ w0.heap.size _ _ ((rd_T83 t250 x7_1).f0.f0) from Kd.V_mk ul255_0 ge255_0)
       clear hva_ hvn_ hvc_ ge255_0 ul255_0
       have hv255_1 := hcc255 1 _ rfl
       rw [add_field _ _ 1 (by omega)] at hv255_1
       replace hv255_1 := Option.some.inj (hv255_1.symm.trans hx255_1)
       injection hv255_1 with hva_ hvn_ hvc_
       rw [hva_] at ge255_1
       rw [hvc_] at ul255_1
       have HL255_1 := am (show Kd.V (Kd.int .i64) 3 _ w0.heap.size _ _ ((rd_T83 t250 x7_1).f0.f1) from Kd.V_mk ul255_1 ge255_1)
       clear hva_ hvn_ hvc_ ge255_1 ul255_1 hcc255 hce255
       have HR255_0 := am hi255_0
       have HC255_0 := am hl255_0
       clear hi255_0 hl255_0
       have HR255_1 := am hi255_1
       have HC255_1 := am hl255_1
       clear hi255_1 hl255_1
       replace p255 := eq_true p255
       replace q255 := eq_true q255
       refine start_ (n := 14) (S := fun w' => w'.cell? ⟨gb249, 0, none⟩ = some (.slice A1_0 l1_0.length c1_0) ∧ w'.cell? ⟨gb249, 1, none⟩ = some (.slice A1_1 l1_1.length c1_1) ∧ w'.cell? ⟨gb249, 2, none⟩ = some (.int .i64 a1_2) ∧ w'.cell? (ad255.add ((x7_1).toNat * 4)) = some (.slice A255_0 ((rd_T83 t250 x7_1).f0.f0).length c255_0) ∧ w'.cell? ⟨(ad255.add ((x7_1).toNat * 4)).block, (ad255.add ((x7_1).toNat * 4)).off + 1, none⟩ = some (.slice A255_1 ((rd_T83 t250 x7_1).f0.f1).length c255_1) ∧ w'.cell? ⟨(ad255.add ((x7_1).toNat * 4)).block, (ad255.add ((x7_1).toNat * 4)).off + 2, none⟩ = some (.int .i64 ((rd_T83 t250 x7_1).f0.f2)) ∧ w'.cell? ⟨(ad255.add ((x7_1).toNat * 4)).block, (ad255.add ((x7_1).toNat * 4)).off + 3, none⟩ = some (.int .i64 ((rd_T83 t250 x7_1).f1))) (ds := []) #[false, false, false, false, false, false, false, false, false, false, false, false, false, false] (by kernel_rfl) rfl rfl ⟨(blk_cell BK249.out 0).trans rfl, (blk_cell BK249.out 1).trans rfl, (blk_cell BK249.out 2).trans rfl, hx255_0, hx255_1, hx255_2, hx255_3⟩ (fun hHeld => ?_); refine with_tabW spec_stPut.tab7 spec_stPut.bits7 (fun HT_ HW_ => ?_)
       generalize wr.drew = w43 at HO_0 HO_250000 HO_250001 BK249 BX HB HL255_0 HL255_1 HR255_0 HR255_1 hx255_0 hx255_1 hx255_2 hx255_3 hHeld ⊢
       refine pure_ (i := 0) (N := some 29) (v := ?_) (a' := ?_) #[true, false, false, false, false, false, false, false, false, false, false, false, false, false] rfl rfl (any_of HT_.out (by kernel_rfl)) (fun _ _ _ h => h) (Or.inl ⟨by rfl, ?_⟩) ?_ ?_
       rotate_left
       ·intro w'
        go_simp
        with_reducible rfl
       rotate_left
       ·simp only [Act.put, sI, s0_, s1_, i64_w, i32_w]
        rfl
       refine pure_ (i := 1) (N := some 30) (v := ?_) (a' := ?_) #[true, true, false, false, false, false, false, false, false, false, false, false, false, false] rfl rfl (any_of HT_.out (by kernel_rfl)) (fun _ _ _ h => h) (Or.inl ⟨by rfl, ?_⟩) ?_ ?_
       rotate_left
       ·intro w'
        go_simp
        with_reducible rfl
       rotate_left
       ·simp only [Act.put, sI, s0_, s1_, i64_w, i32_w]
        rfl
       refine pure_ (i := 2) (N := some 31) (v := ?_) (a' := ?_) #[true, true, true, false, false, false, false, false, false, false, false, false, false, false] rfl rfl (any_of HT_.out (by kernel_rfl)) (fun _ _ _ h => h) (Or.inl ⟨by rfl, ?_⟩) ?_ ?_
       rotate_left
       ·intro w'
        go_simp
        with_reducible rfl
       rotate_left
       ·simp only [Act.put, sI, s0_, s1_, i64_w, i32_w]
        rfl
       refine pure_ (i := 3) (N := some 32) (v := ?_) (a' := ?_) #[true, true, true, true, false, false, false, false, false, false, false, false, false, false] rfl rfl (any_of HT_.out (by kernel_rfl)) (fun _ _ _ h => h) (Or.inl ⟨by rfl, ?_⟩) ?_ ?_
       rotate_left
       ·intro w'
        go_simp
        with_reducible rfl
       rotate_left
       ·simp only [Act.put, sI, s0_, s1_, i64_w, i32_w]
        rfl
       refine pure_ (i := 4) (N := some 33) (v := ?_) (a' := ?_) #[true, true, true, true, true, false, false, false, false, false, false, false, false, false] rfl rfl (any_of HT_.out (by kernel_rfl)) (fun _ _ _ h => h) (Or.inl ⟨by rfl, ?_⟩) ?_ ?_
       rotate_left
       ·intro w'
        go_simp
        with_reducible rfl
       rotate_left
       ·simp only [Act.put, sI, s0_, s1_, i64_w, i32_w]
        rfl
       refine pure_ (i := 6) (N := some 35) (v := ?_) (a' := ?_) #[true, true, true, true, true, false, true, false, false, false, false, false, false, false] rfl rfl (any_of HT_.out (by kernel_rfl)) (fun _ _ _ h => h) (Or.inl ⟨by rfl, ?_⟩) ?_ ?_
       rotate_left
       ·intro w'
        go_simp
        with_reducible rfl
       rotate_left
       ·simp only [Act.put, sI, s0_, s1_, i64_w, i32_w]
        rfl
       refine pure_ (i := 7) (N := some 36) (v := ?_) (a' := ?_) #[true, true, true, true, true, false, true, true, false, false, false, false, false, false] rfl rfl (any_of HT_.out (by kernel_rfl)) (fun _ _ _ h => h) (Or.inl ⟨by rfl, ?_⟩) ?_ ?_
       rotate_left
       ·intro w'
        go_simp
        with_reducible rfl
       rotate_left
       ·simp only [Act.put, sI, s0_, s1_, i64_w, i32_w]
        rfl
       refine pure_ (i := 8) (N := some 37) (v := ?_) (a' := ?_) #[true, true, true, true, true, false, true, true, true, false, false, false, false, false] rfl rfl (any_of HT_.out (by kernel_rfl)) (fun _ _ _ h => h) (Or.inl ⟨by rfl, ?_⟩) ?_ ?_
       rotate_left
       ·intro w'
        go_simp
        with_reducible rfl
       rotate_left
       ·simp only [Act.put, sI, s0_, s1_, i64_w, i32_w]
        rfl
       refine pure_ (i := 9) (N := some 38) (v := ?_) (a' := ?_) #[true, true, true, true, true, false, true, true, true, true, false, false, false, false] rfl rfl (any_of HT_.out (by kernel_rfl)) (fun _ _ _ h => h) (Or.inl ⟨by rfl, ?_⟩) ?_ ?_
       rotate_left
       ·intro w'
        go_simp
        with_reducible rfl
       rotate_left
       ·simp only [Act.put, sI, s0_, s1_, i64_w, i32_w]
        rfl
       refine take_ (i := 5) (N := some 34) (v := ?_) (a' := ?_) #[true, true, true, true, true, true, true, true, true, true, false, false, false, false] rfl rfl (take_ofW HT_.out HW_.out (by kernel_rfl)) (fun _ _ _ h => h) (Or.inl ⟨by rfl, ?_⟩) hHeld ?_ ?_
       rotate_left
       ·rintro w' ⟨s0, s1, s2, s3, s4, s5, s6⟩
        go_simp
        with_reducible rfl
       rotate_left
       ·simp only [Act.put, sI, s0_, s1_, i64_w, i32_w]
        rfl
       refine take_ (i := 10) (N := some 39) (v := ?_) (a' := ?_) #[true, true, true, true, true, true, true, true, true, true, true, false, false, false] rfl rfl (take_ofW HT_.out HW_.out (by kernel_rfl)) (fun _ _ _ h => h) (Or.inl ⟨by rfl, ?_⟩) hHeld ?_ ?_
       rotate_left
       ·rintro w' ⟨s0, s1, s2, s3, s4, s5, s6⟩
        go_simp
        with_reducible rfl
       rotate_left
       ·simp only [Act.put, sI, s0_, s1_, i64_w, i32_w]
        rfl
       refine one_ (i := 11) (N := some 40) #[true, true, true, true, true, true, true, true, true, true, true, true, false, false] rfl rfl (one_of HT_.out (by kernel_rfl)) (by decide) (fun K hK => ?_)
       refine goes_ Try.func87 (by kernel_rfl) rfl #[.agg #[.slice A1_0 l1_0.length c1_0, .slice A1_1 l1_1.length c1_1, .int .i64 a1_2], .agg #[.slice A255_0 ((rd_T83 t250 x7_1).f0.f0).length c255_0, .slice A255_1 ((rd_T83 t250 x7_1).f0.f1).length c255_1, .int .i64 ((rd_T83 t250 x7_1).f0.f2)]] (by rfl) rfl rfl (by (try simp only [mT, mC, mZ]); first | done | rfl) ?_
       with_reducible refine (spec_stLess.calls k1 _ _ l1_0 _ _ l1_1 a1_2 _ _ ((rd_T83 t250 x7_1).f0.f0) _ _ ((rd_T83 t250 x7_1).f0.f1) ((rd_T83 t250 x7_1).f0.f2) false _ ?side1 ?side2 ?side3 ?side4 ?side5 ?side6 ?side7 ?side8 A20.out).mono ?_
       (case side1 => repeat (first | exact (Kd.V_reads' HO_250000.out).2.2 | (with_reducible first | apply cA | apply cN | apply cD)))
       (case side2 => exact (Kd.V_reads' HO_250000.out).2.1)
       (case side3 => repeat (first | exact (Kd.V_reads' HO_250001.out).2.2 | (with_reducible first | apply cA | apply cN | apply cD)))
       (case side4 => exact (Kd.V_reads' HO_250001.out).2.1)
       (case side5 => repeat (first | exact (Kd.V_reads' HL255_0.out).2.2 | (with_reducible first | apply cA | apply cN | apply cD)))
       (case side6 => exact (Kd.V_reads' HL255_0.out).2.1)
       (case side7 => repeat (first | exact (Kd.V_reads' HL255_1.out).2.2 | (with_reducible first | apply cA | apply cN | apply cD)))
       (case side8 => exact (Kd.V_reads' HL255_1.out).2.1)
       rintro e w44 ⟨rfl, hb⟩
       have HS3_ := (hb.cell (World.block_lt_of_cell? _ _ (hHeld.2.2.2.1))).trans (hHeld.2.2.2.1)
       have HS4_ := (hb.cell (World.block_lt_of_cell? _ _ (hHeld.2.2.2.2.1))).trans (hHeld.2.2.2.2.1)
       have HS5_ := (hb.cell (World.block_lt_of_cell? _ _ (hHeld.2.2.2.2.2.1))).trans (hHeld.2.2.2.2.2.1)
       have HS6_ := (hb.cell (World.block_lt_of_cell? _ _ (hHeld.2.2.2.2.2.2))).trans (hHeld.2.2.2.2.2.2)
       refine ⟨_, rfl, ?_⟩
       have n0_ := am (Kd.N_below (by (with_reducible repeat (first | apply nA | apply nN | apply nD)); exact HO_0.out) hb)
       have n1_ := am (Kd.V_below (by (with_reducible repeat (first | apply vA | apply vN | apply vD)); exact HO_250000.out) hb)
       have n2_ := am (Kd.V_below (by (with_reducible repeat (first | apply vA | apply vN | apply vD)); exact HO_250001.out) hb)
       have n3_ := am (Kd.V_below (by (with_reducible repeat (first | apply vA | apply vN | apply vD)); exact HL255_0.out) hb)
       have n4_ := am (Kd.V_below (by (with_reducible repeat (first | apply vA | apply vN | apply vD)); exact HL255_1.out) hb)
       have nBX_ := am (BX_below (by (with_reducible repeat (first | refine BX_drewN ?_ _ | refine BX_drew ?_ | refine BX_alloc ?_ _)); exact BX.out) hb); have n5_ := am (blk_below (g := gb249) (by (with_reducible repeat (first | apply kB | apply kC | apply kE)); exact BK249.out) hb)
       have n6_ := am (Kd.C_below (by repeat (first | (with_reducible exact HR255_0.out) | (with_reducible first | apply cA | apply cN | apply cD) | exact HR255_0.out)) hb)
       have n7_ := am (Kd.C_below (by repeat (first | (with_reducible exact HR255_1.out) | (with_reducible first | apply cA | apply cN | apply cD) | exact HR255_1.out)) hb)
       have n8_ := am (below_step (by repeat (with_reducible first | exact HB.out | apply bA | apply bN | apply bD | refine bS ?_ GE249.out)) hb)
       clear HO_0 HO_250000 HO_250001 HL255_0 HL255_1 BK249 BX HR255_0 HR255_1 HB
       have HO_0 := n0_
       have HO_250000 := n1_
       have HO_250001 := n2_
       have HL255_0 := n3_
       have HL255_1 := n4_
       have BK249 := n5_; have BX := nBX_; clear nBX_
       have HR255_0 := n6_
       have HR255_1 := n7_
       have HB := n8_
       clear n0_ n1_ n2_ n3_ n4_ n5_ n6_ n7_ n8_
       (try clear hb)
       (try clear hb2)
       (try clear hk)
       (try clear hi)
       refine hK.out _ _ ⟨(blk_cell BK249.out 0).trans rfl, (blk_cell BK249.out 1).trans rfl, (blk_cell BK249.out 2).trans rfl, HS3_, HS4_, HS5_, HS6_⟩ (fun hHeld => ?_)
       clear hK K
       refine norm_ (a' := ?_) ?_ ?_
       rotate_left
       ·show Act.put _ (some 40) _ = _
        simp only [Act.put, sI, s0_, s1_, i64_w, i32_w]
        rfl
       refine pure_ (i := 12) (N := some 41) (v := ?_) (a' := ?_) #[true, true, true, true, true, true, true, true, true, true, true, true, true, false] rfl rfl (any_of HT_.out (by kernel_rfl)) (fun _ _ _ h => h) (Or.inl ⟨by rfl, ?_⟩) ?_ ?_
       rotate_left
       ·intro w'
        go_simp
        with_reducible rfl
       rotate_left
       ·simp only [Act.put, sI, s0_, s1_, i64_w, i32_w]
        rfl
       refine pure_ (i := 13) (N := some 42) (v := ?_) (a' := ?_) #[true, true, true, true, true, true, true, true, true, true, true, true, true, true] rfl rfl (any_of HT_.out (by kernel_rfl)) (fun _ _ _ h => h) (Or.inl ⟨by rfl, ?_⟩) ?_ ?_
       rotate_left
       ·intro w'
        go_simp
        with_reducible rfl
       rotate_left
       ·simp only [Act.put, sI, s0_, s1_, i64_w, i32_w]
        rfl
       refine done_ (done_of HT_.out (by kernel_rfl)) ?_
       have p274 : 0 ≤ (x7_1 : Int) := ofd (by assumption)
       have q274 : x7_1 < (t250.length : Int) := ofd (by assumption)
       obtain ⟨ad274, A274_0, c274_0, A274_1, c274_1, e274, hx274_0, hx274_1, hx274_2, hx274_3, hl274_0, hi274_0, hl274_1, hi274_1⟩ := at_T83 (Kd.N_reads' HO_0.out).2.2 x7_1 p274 q274
       obtain rfl : ad255 = ad274 := (by injection e274)
       obtain ⟨ce274, hce274, hMe274, hcc274⟩ := Kd.N_get HO_0.out z83 x7_1 p274 (by first | exact q274 | exact ofd (by assumption) | (have e_ := (Kd.N_reads' HO_0.out).1; omega))
       obtain ⟨ua274_0, uc274_0, ua274_1, uc274_1, rfl, ul274_0, ge274_0, ul274_1, ge274_1⟩ := k83_openF hMe274
       have hv274_0 := hcc274 0 _ rfl
       rw [Nat.add_zero] at hv274_0
       replace hv274_0 := Option.some.inj (hv274_0.symm.trans hx274_0)
       injection hv274_0 with hva_ hvn_ hvc_
       rw [hva_] at ge274_0
       rw [hvc_] at ul274_0
       have HL274_0 := am (show Kd.V (Kd.int .i64) 3 _ w0.heap.size _ _ ((rd_T83 t250 x7_1).f0.f0) from Kd.V_mk ul274_0 ge274_0)
       clear hva_ hvn_ hvc_ ge274_0 ul274_0
       have hv274_1 := hcc274 1 _ rfl
       rw [add_field _ _ 1 (by omega)] at hv274_1
       replace hv274_1 := Option.some.inj (hv274_1.symm.trans hx274_1)
       injection hv274_1 with hva_ hvn_ hvc_
       rw [hva_] at ge274_1
       rw [hvc_] at ul274_1
       have HL274_1 := am (show Kd.V (Kd.int .i64) 3 _ w0.heap.size _ _ ((rd_T83 t250 x7_1).f0.f1) from Kd.V_mk ul274_1 ge274_1)
       clear hva_ hvn_ hvc_ ge274_1 ul274_1 hcc274 hce274
       have HR274_0 := am hi274_0
       have HC274_0 := am hl274_0
       clear hi274_0 hl274_0
       have HR274_1 := am hi274_1
       have HC274_1 := am hl274_1
       clear hi274_1 hl274_1
       replace p274 := eq_true p274
       replace q274 := eq_true q274
       have p42 : 0 ≤ (x7_1 : Int) := ofd (by assumption)
       have q42 : (x7_1 : Int) < ((t250.length : Int) : Int) := ofd (by assumption)
       obtain ⟨go42, co42, eo42, gb42, gl42, cl42, HG42⟩ := Kd.N_form HO_0.out (by omega)
       (first | cases eo42 | (injection eo42 with ea_ en_ ec_; (first | subst ea_ | (injection ea_ with ea_; subst ea_)); subst ec_; clear en_))
       have GB42 := am gb42
       have GG42 := am HG42
       clear gb42 gl42 HG42
       (first | simp only [add_plain] at hx255_0 | skip)
       (first | simp only [add_plain] at hx255_1 | skip)
       (first | simp only [add_plain] at hx255_2 | skip)
       (first | simp only [add_plain] at hx255_3 | skip)
       (first | simp only [add_plain] at hx274_0 | skip)
       (first | simp only [add_plain] at hx274_1 | skip)
       (first | simp only [add_plain] at hx274_2 | skip)
       (first | simp only [add_plain] at hx274_3 | skip)
       obtain ⟨ce42, hcl42, hM42, hcc42, hfr42⟩ := Kd.N_elem HO_0.out z83 (x7_1 : Int) p42 q42
       obtain ⟨ua42_0, uc42_0, ua42_1, uc42_1, rfl, ul42_0, ge42_0, ul42_1, ge42_1⟩ := k83_openF hM42
       have hx42_0 : w44.cell? ⟨go42, (x7_1 : Int).toNat * 4, none⟩ = some (.slice ua42_0 ((rd_T83 t250 x7_1).f0.f0).length uc42_0) := hcc42 0 _ rfl
       have hx42_1 : w44.cell? ⟨go42, (x7_1 : Int).toNat * 4 + 1, none⟩ = some (.slice ua42_1 ((rd_T83 t250 x7_1).f0.f1).length uc42_1) := hcc42 1 _ rfl
       have hx42_2 : w44.cell? ⟨go42, (x7_1 : Int).toNat * 4 + 2, none⟩ = some (.int .i64 ((rd_T83 t250 x7_1).f0.f2)) := hcc42 2 _ rfl
       have hx42_3 : w44.cell? ⟨go42, (x7_1 : Int).toNat * 4 + 3, none⟩ = some (.int .i64 ((rd_T83 t250 x7_1).f1)) := hcc42 3 _ rfl
       have hf42_0 : w44.frozen? ⟨go42, (x7_1 : Int).toNat * 4, none⟩ = false := hfr42 0
       have hf42_1 : w44.frozen? ⟨go42, (x7_1 : Int).toNat * 4 + 1, none⟩ = false := hfr42 1
       have hf42_2 : w44.frozen? ⟨go42, (x7_1 : Int).toNat * 4 + 2, none⟩ = false := hfr42 2
       have hf42_3 : w44.frozen? ⟨go42, (x7_1 : Int).toNat * 4 + 3, none⟩ = false := hfr42 3
       clear hcl42 hcc42 hfr42 hM42
       replace p42 := eq_true p42
       replace q42 := eq_true q42
       have HX45 := am (show Kd.N k83 83 w44 w0.heap.size (fun k_ => ((P1_0_ k_ ∨ P1_1_ k_) ∨ w.heap.size ≤ k_) ∧ k_ ≠ gb249) (.slice (some ⟨go42, 0, none⟩) t250.length c0) t250 from (by (with_reducible repeat (first | apply nA | apply nN | apply nD)); exact HO_0.out))
       obtain ⟨ce45, hcl45, hM45, hcc45, hfr45⟩ := Kd.N_elem HX45.out z83 (x7_1 : Int) (ofd (by assumption)) (by have h_ : (x7_1 : Int) < ((t250.length : Int) : Int) := ofd (by assumption); first | exact h_ | (have e_ := (Kd.N_reads' HO_0.out).1; omega) | simpa using h_)
       obtain ⟨ua45_0, uc45_0, ua45_1, uc45_1, rfl, ul45_0, ge45_0, ul45_1, ge45_1⟩ := k83_openF hM45
       have HP45 := Kd.N_seg HX45.out (x7_1 : Int) (ofd (by assumption)) (by have h_ : (x7_1 : Int) < ((t250.length : Int) : Int) := ofd (by assumption); first | exact h_ | (have e_ := (Kd.N_reads' HO_0.out).1; omega) | simpa using h_) (seg := [.int .i64 (wrap64 (((rd_T83 t250 x7_1).f1) + a2))]) (j := 3) hcl45 hcc45 (show 4 ≤ 4 from by decide) (x' := (⟨(⟨(rd_T83 t250 x7_1).f0.f0, (rd_T83 t250 x7_1).f0.f1, (rd_T83 t250 x7_1).f0.f2⟩ : S27), wrap64 (((rd_T83 t250 x7_1).f1) + a2)⟩ : S83)) (k83_mkF _ _ (⟨(⟨(rd_T83 t250 x7_1).f0.f0, (rd_T83 t250 x7_1).f0.f1, (rd_T83 t250 x7_1).f0.f2⟩ : S27), wrap64 (((rd_T83 t250 x7_1).f1) + a2)⟩ : S83) ul45_0 ge45_0 ul45_1 ge45_1) (fun _ hk => hk)
       have hx45_3 := hcc45 3 _ rfl
       (try simp only [show (k83).sz = 4 from rfl, Nat.mul_one, Nat.add_zero] at hx45_3)
       have hf45_3 := hfr45 3
       (try simp only [show (k83).sz = 4 from rfl, Nat.mul_one, Nat.add_zero] at hf45_3)
       clear hcl45 hcc45 hfr45 hM45
       try go_wp2_with (first | ((with_reducible refine gate_store (t := 3) (p := 51) rfl ?_); refine store_event (t := 3) (p := 51) (v := ?vo_w46) (w1 := (w44.setCell ⟨go42, (x7_1 : Int).toNat * 4 + 3, none⟩ (.int .i64 (wrap64 (((rd_T83 t250 x7_1).f1) + a2))))) ?hg ?ho ?hn ?hr ?_; (case ho => rfl); (case hg => rfl); (case hn => rfl); (case hr => first | (go_simp; done) | (go_simp; rfl)); intro w46 hw; have hg : w44.grownBy w46 (some go42) := (by rw [hw]; exact HP45.2); have hp_ : Kd.N k83 83 w46 w0.heap.size (fun k_ => ((P1_0_ k_ ∨ P1_1_ k_) ∨ w.heap.size ≤ k_) ∧ k_ ≠ gb249) (.slice (some ⟨go42, 0, none⟩) t250.length c0) y275 := (by rw [hw, Ny275.out]; exact HP45.1); clear HP45; have n0_ := am (hp_); have n1_ := am (Kd.V_afterv (v := (.slice (some ⟨go42, 0, none⟩) t250.length c0)) (v1 := (.slice (some ⟨go42, 0, none⟩) t250.length c0)) (ok := (fun k_ => ((P1_0_ k_ ∨ P1_1_ k_) ∨ w.heap.size ≤ k_) ∧ k_ ≠ gb249)) (by (with_reducible repeat (first | apply vA | apply vN | apply vD)); exact Kd.V_mono HO_250000.out (fun _ hk => ⟨⟨hk.1, hk.2.2⟩, hk.2.1⟩)) hg (.inl rfl)); have n2_ := am (Kd.V_afterv (v := (.slice (some ⟨go42, 0, none⟩) t250.length c0)) (v1 := (.slice (some ⟨go42, 0, none⟩) t250.length c0)) (ok := (fun k_ => ((P1_0_ k_ ∨ P1_1_ k_) ∨ w.heap.size ≤ k_) ∧ k_ ≠ gb249)) (by (with_reducible repeat (first | apply vA | apply vN | apply vD)); exact Kd.V_mono HO_250001.out (fun _ hk => ⟨⟨hk.1, hk.2.2⟩, hk.2.1⟩)) hg (.inl rfl)); have nBX_ := am (BX_same (v := (.slice (some ⟨go42, 0, none⟩) t250.length c0)) (by (with_reducible repeat (first | refine BX_drewN ?_ _ | refine BX_drew ?_ | refine BX_alloc ?_ _)); exact BX.out) hg); have n3_ := am (blk_grown (g := gb249) (by (with_reducible repeat (first | apply kB | apply kC | apply kE)); exact BK249.out) hg (Kd.N_ne HO_0.out BK249.out (by decide))); have n4_ := am (Kd.V_afterv (v := (.slice (some ⟨go42, 0, none⟩) t250.length c0)) (v1 := (.slice (some ⟨go42, 0, none⟩) t250.length c0)) (ok := (fun k_ => ((P1_0_ k_ ∨ P1_1_ k_) ∨ w.heap.size ≤ k_) ∧ k_ ≠ gb249)) (by (with_reducible repeat (first | apply vA | apply vN | apply vD)); exact HL255_0.out) hg (.inl rfl)); have n5_ := am (Kd.V_afterv (v := (.slice (some ⟨go42, 0, none⟩) t250.length c0)) (v1 := (.slice (some ⟨go42, 0, none⟩) t250.length c0)) (ok := (fun k_ => ((P1_0_ k_ ∨ P1_1_ k_) ∨ w.heap.size ≤ k_) ∧ k_ ≠ gb249)) (by (with_reducible repeat (first | apply vA | apply vN | apply vD)); exact HL255_1.out) hg (.inl rfl)); have n6_ := am (Kd.V_afterv (v := (.slice (some ⟨go42, 0, none⟩) t250.length c0)) (v1 := (.slice (some ⟨go42, 0, none⟩) t250.length c0)) (ok := (fun k_ => ((P1_0_ k_ ∨ P1_1_ k_) ∨ w.heap.size ≤ k_) ∧ k_ ≠ gb249)) (by (with_reducible repeat (first | apply vA | apply vN | apply vD)); exact HL274_0.out) hg (.inl rfl)); have n7_ := am (Kd.V_afterv (v := (.slice (some ⟨go42, 0, none⟩) t250.length c0)) (v1 := (.slice (some ⟨go42, 0, none⟩) t250.length c0)) (ok := (fun k_ => ((P1_0_ k_ ∨ P1_1_ k_) ∨ w.heap.size ≤ k_) ∧ k_ ≠ gb249)) (by (with_reducible repeat (first | apply vA | apply vN | apply vD)); exact HL274_1.out) hg (.inl rfl)); have n8_ := am ((by rw [hw]; exact bS (HB.out) GB42.out : Below w0.heap.size w0 w46)); clear HO_0; clear HO_250000; clear HO_250001; clear BK249 BX; clear HL255_0; clear HL255_1; clear HL274_0; clear HL274_1; clear HB; have HO_0 := n0_; have HO_250000 := n1_; have HO_250001 := n2_; have BK249 := n3_; have BX := nBX_; clear nBX_; have HL255_0 := n4_; have HL255_1 := n5_; have HL274_0 := n6_; have HL274_1 := n7_; have HB := n8_; clear n0_ n1_ n2_ n3_ n4_ n5_ n6_ n7_ n8_; clear hg hw hp_))
       go_ret
       exact ⟨_, by first | rfl | (simp [*, errW_none, errW_some] <;> rfl), by (with_reducible repeat (first | apply nA | apply nN | apply nD)); exact Kd.N_mono HO_0.out (fun _ hk => hk.1), by repeat (with_reducible first | exact HB.out | apply bA | apply bN | apply bD | refine bS ?_ GE249.out), by (with_reducible repeat (first | refine BX_drewN ?_ _ | refine BX_drew ?_ | refine BX_alloc ?_ _)); exact BX.out⟩
     ·rw [if_neg c19] at H
      exact absurd H (by simp)
    ·rw [if_neg c18] at H
     have c18b0 : decide (x7_1 < (t250.length : Int)) = false := decide_eq_false c18
     clear c18
     by_cases c47 : t250.length < 2199023255552
     ·rw [if_pos c47] at H
      have LMc47 := am c47
      clear c47
      obtain ⟨y276, hy276⟩ : ∃ y_ : List (S83), y_ = (t250 ++ [(⟨(⟨([] : List Int), ([] : List Int), 0⟩ : S27), 0⟩ : S83)]) := ⟨_, rfl⟩
      replace H : (if 0 ≤ (wrap64 (x7_1 + 1)) then (if (wrap64 (x7_1 + 1)) ≤ (y276.length : Int) then (if 0 ≤ x7_1 then (if x7_1 ≤ (y276.length : Int) then (if y276.length < 2199023255552 then ((some (shiftL y276 (x7_1 : Int).toNat : List (S83))).bind fun y289 => (if x7_1 < (y289.length : Int) then (some (y289.set (x7_1 : Int).toNat (⟨(⟨l1_0, l1_1, a1_2⟩ : S27), a2⟩ : S83))) else (none))) else (none)) else (none)) else (none)) else (none)) else (none)) = some r := by first | (rw [hy276]; with_reducible exact H) | (have H2_ := (Option.bind_some _ _).symm.trans H; rw [hy276]; with_reducible exact H2_) | (have H2_ := (Option.bind_some _ _).symm.trans H; with_reducible exact H2_) | with_reducible exact H | (rw [hy276]; exact H) | exact H
      have Ny276 := am hy276
      clear hy276
      obtain ⟨ji48, hji48⟩ : ∃ j_ : Int, (wrap64 (x7_1 + 1)) = j_ := ⟨_, rfl⟩
      replace H : (if 0 ≤ (ji48) then (if (ji48) ≤ (y276.length : Int) then (if 0 ≤ x7_1 then (if x7_1 ≤ (y276.length : Int) then (if y276.length < 2199023255552 then ((some (shiftL y276 (x7_1 : Int).toNat : List (S83))).bind fun y289 => (if x7_1 < (y289.length : Int) then (some (y289.set (x7_1 : Int).toNat (⟨(⟨l1_0, l1_1, a1_2⟩ : S27), a2⟩ : S83))) else (none))) else (none)) else (none)) else (none)) else (none)) else (none)) = some r := by first | (rw [hji48] at H; exact H) | (simp only [hji48] at H ⊢; exact H)
      have hji48w : (IntKind.i64.wrap (x7_1 + 1)) = ji48 := (i64_w _).trans hji48
      by_cases c49 : 0 ≤ (ji48)
      ·rw [if_pos c49] at H
       have c49b0 := eq_true c49
       have c49b1 : decide (0 ≤ (ji48)) = true := decide_eq_true c49
       clear c49
       by_cases c50 : (ji48) ≤ (y276.length : Int)
       ·rw [if_pos c50] at H
        have c50b0 := eq_true c50
        have c50b1 : decide ((ji48) ≤ (y276.length : Int)) = true := decide_eq_true c50
        clear c50
        obtain ⟨y279, hy279⟩ : ∃ y_ : List (S83), y_ = (y276.drop ((ji48) : Int).toNat) := ⟨_, rfl⟩
        replace H : (if 0 ≤ x7_1 then (if x7_1 ≤ (y276.length : Int) then (if y276.length < 2199023255552 then ((some (shiftL y276 (x7_1 : Int).toNat : List (S83))).bind fun y289 => (if x7_1 < (y289.length : Int) then (some (y289.set (x7_1 : Int).toNat (⟨(⟨l1_0, l1_1, a1_2⟩ : S27), a2⟩ : S83))) else (none))) else (none)) else (none)) else (none)) = some r := by first | (rw [hy279]; with_reducible exact H) | (have H2_ := (Option.bind_some _ _).symm.trans H; rw [hy279]; with_reducible exact H2_) | (have H2_ := (Option.bind_some _ _).symm.trans H; with_reducible exact H2_) | with_reducible exact H | (rw [hy279]; exact H) | exact H
        have Ny279 := am hy279
        clear hy279
        by_cases c51 : 0 ≤ x7_1
        ·rw [if_pos c51] at H
         have c51b0 := eq_true c51
         have c51b1 : decide (0 ≤ x7_1) = true := decide_eq_true c51
         clear c51
         by_cases c52 : x7_1 ≤ (y276.length : Int)
         ·rw [if_pos c52] at H
          have c52b0 := eq_true c52
          have c52b1 : decide (x7_1 ≤ (y276.length : Int)) = true := decide_eq_true c52
          clear c52
          obtain ⟨y284, hy284⟩ : ∃ y_ : List (S83), y_ = (y276.drop (x7_1 : Int).toNat) := ⟨_, rfl⟩
          replace H : (if y276.length < 2199023255552 then ((some (shiftL y276 (x7_1 : Int).toNat : List (S83))).bind fun y289 => (if x7_1 < (y289.length : Int) then (some (y289.set (x7_1 : Int).toNat (⟨(⟨l1_0, l1_1, a1_2⟩ : S27), a2⟩ : S83))) else (none))) else (none)) = some r := by first | (rw [hy284]; with_reducible exact H) | (have H2_ := (Option.bind_some _ _).symm.trans H; rw [hy284]; with_reducible exact H2_) | (have H2_ := (Option.bind_some _ _).symm.trans H; with_reducible exact H2_) | with_reducible exact H | (rw [hy284]; exact H) | exact H
          have Ny284 := am hy284
          clear hy284
          by_cases c53 : y276.length < 2199023255552
          ·rw [if_pos c53] at H
           have LMc53 := am c53
           clear c53
           obtain ⟨y289, hy289⟩ : ∃ y_ : List (S83), y_ = (shiftL y276 (x7_1 : Int).toNat) := ⟨_, rfl⟩
           replace H : (if x7_1 < (y289.length : Int) then (some (y289.set (x7_1 : Int).toNat (⟨(⟨l1_0, l1_1, a1_2⟩ : S27), a2⟩ : S83))) else (none)) = some r := by first | (rw [hy289]; with_reducible exact H) | (have H2_ := (Option.bind_some _ _).symm.trans H; rw [hy289]; with_reducible exact H2_) | (have H2_ := (Option.bind_some _ _).symm.trans H; with_reducible exact H2_) | with_reducible exact H | (rw [hy289]; exact H) | exact H
           have Ny289 := am hy289
           clear hy289
           by_cases c54 : x7_1 < (y289.length : Int)
           ·rw [if_pos c54] at H
            have c54b0 : decide (x7_1 < (y289.length : Int)) = true := decide_eq_true c54
            clear c54
            obtain ⟨y292, hy292⟩ : ∃ y_ : List (S83), y_ = (y289.set (x7_1 : Int).toNat (⟨(⟨l1_0, l1_1, a1_2⟩ : S27), a2⟩ : S83)) := ⟨_, rfl⟩
            replace H : (some y292) = some r := by first | (rw [hy292]; with_reducible exact H) | (have H2_ := (Option.bind_some _ _).symm.trans H; rw [hy292]; with_reducible exact H2_) | (have H2_ := (Option.bind_some _ _).symm.trans H; with_reducible exact H2_) | with_reducible exact H | (rw [hy292]; exact H) | exact H
            have Ny292 := am hy292
            clear hy292
            obtain rfl := Option.some.inj H
            try go_wp2
            have n0_ := am (nD HO_0.out)
            have n1_ := am (vD HO_250000.out)
            have n2_ := am (vD HO_250001.out)
            have nBX_ := am (BX_drew BX.out); have n3_ := am (kC BK249.out)
            have n4_ := am (below_drew1 HB.out)
            clear HO_0 HO_250000 HO_250001 BK249 BX HB
            have HO_0 := n0_
            have HO_250000 := n1_
            have HO_250001 := n2_
            have BK249 := n3_; have BX := nBX_; clear nBX_
            have HB := n4_
            clear n0_ n1_ n2_ n3_ n4_
            refine start_ (n := 14) (S := fun w' => True) (ds := []) #[false, false, false, false, false, false, false, false, false, false, false, false, false, false] (by kernel_rfl) rfl rfl trivial (fun hHeld => ?_); refine with_tabW spec_stPut.tab7 spec_stPut.bits7 (fun HT_ HW_ => ?_)
            generalize wr.drew = w56 at HO_0 HO_250000 HO_250001 BK249 BX HB hHeld ⊢
            refine pure_ (i := 0) (N := some 29) (v := ?_) (a' := ?_) #[true, false, false, false, false, false, false, false, false, false, false, false, false, false] rfl rfl (any_of HT_.out (by kernel_rfl)) (fun _ _ _ h => h) (Or.inl ⟨by rfl, ?_⟩) ?_ ?_
            rotate_left
            ·intro w'
             go_simp
             with_reducible rfl
            rotate_left
            ·simp only [Act.put, sI, s0_, s1_, i64_w, i32_w]
             rfl
            refine pure_ (i := 1) (N := some 30) (v := ?_) (a' := ?_) #[true, true, false, false, false, false, false, false, false, false, false, false, false, false] rfl rfl (any_of HT_.out (by kernel_rfl)) (fun _ _ _ h => h) (Or.inl ⟨by rfl, ?_⟩) ?_ ?_
            rotate_left
            ·intro w'
             go_simp
             with_reducible rfl
            rotate_left
            ·simp only [Act.put, sI, s0_, s1_, i64_w, i32_w]
             rfl
            refine pure_ (i := 2) (N := some 31) (v := ?_) (a' := ?_) #[true, true, true, false, false, false, false, false, false, false, false, false, false, false] rfl rfl (any_of HT_.out (by kernel_rfl)) (fun _ _ _ h => h) (Or.inl ⟨by rfl, ?_⟩) ?_ ?_
            rotate_left
            ·intro w'
             go_simp
             with_reducible rfl
            rotate_left
            ·simp only [Act.put, sI, s0_, s1_, i64_w, i32_w]
             rfl
            refine pure_ (i := 3) (N := some 32) (v := ?_) (a' := ?_) #[true, true, true, true, false, false, false, false, false, false, false, false, false, false] rfl rfl (any_of HT_.out (by kernel_rfl)) (fun _ _ _ h => h) (Or.inl ⟨by rfl, ?_⟩) ?_ ?_
            rotate_left
            ·intro w'
             go_simp
             with_reducible rfl
            rotate_left
            ·simp only [Act.put, sI, s0_, s1_, i64_w, i32_w]
             rfl
            refine pure_ (i := 4) (N := some 33) (v := ?_) (a' := ?_) #[true, true, true, true, true, false, false, false, false, false, false, false, false, false] rfl rfl (any_of HT_.out (by kernel_rfl)) (fun _ _ _ h => h) (Or.inl ⟨by rfl, ?_⟩) ?_ ?_
            rotate_left
            ·intro w'
             go_simp
             with_reducible rfl
            rotate_left
            ·simp only [Act.put, sI, s0_, s1_, i64_w, i32_w]
             rfl
            refine pure_ (i := 5) (N := some 34) (v := undef) (a' := ?_) #[true, true, true, true, true, true, false, false, false, false, false, false, false, false] rfl rfl (any_of HT_.out (by kernel_rfl)) (fun _ _ _ h => h) (Or.inr ⟨by rfl, rfl⟩) ?_ ?_
            rotate_left
            ·simp only [Act.put, sI, s0_, s1_, i64_w, i32_w]
             rfl
            refine pure_ (i := 6) (N := some 35) (v := undef) (a' := ?_) #[true, true, true, true, true, true, true, false, false, false, false, false, false, false] rfl rfl (any_of HT_.out (by kernel_rfl)) (fun _ _ _ h => h) (Or.inr ⟨by rfl, rfl⟩) ?_ ?_
            rotate_left
            ·simp only [Act.put, sI, s0_, s1_, i64_w, i32_w]
             rfl
            refine pure_ (i := 7) (N := some 36) (v := undef) (a' := ?_) #[true, true, true, true, true, true, true, true, false, false, false, false, false, false] rfl rfl (any_of HT_.out (by kernel_rfl)) (fun _ _ _ h => h) (Or.inr ⟨by rfl, rfl⟩) ?_ ?_
            rotate_left
            ·simp only [Act.put, sI, s0_, s1_, i64_w, i32_w]
             rfl
            refine pure_ (i := 8) (N := some 37) (v := undef) (a' := ?_) #[true, true, true, true, true, true, true, true, true, false, false, false, false, false] rfl rfl (any_of HT_.out (by kernel_rfl)) (fun _ _ _ h => h) (Or.inr ⟨by rfl, rfl⟩) ?_ ?_
            rotate_left
            ·simp only [Act.put, sI, s0_, s1_, i64_w, i32_w]
             rfl
            refine pure_ (i := 9) (N := some 38) (v := undef) (a' := ?_) #[true, true, true, true, true, true, true, true, true, true, false, false, false, false] rfl rfl (any_of HT_.out (by kernel_rfl)) (fun _ _ _ h => h) (Or.inr ⟨by rfl, rfl⟩) ?_ ?_
            rotate_left
            ·simp only [Act.put, sI, s0_, s1_, i64_w, i32_w]
             rfl
            refine pure_ (i := 10) (N := some 39) (v := undef) (a' := ?_) #[true, true, true, true, true, true, true, true, true, true, true, false, false, false] rfl rfl (any_of HT_.out (by kernel_rfl)) (fun _ _ _ h => h) (Or.inr ⟨by rfl, rfl⟩) ?_ ?_
            rotate_left
            ·simp only [Act.put, sI, s0_, s1_, i64_w, i32_w]
             rfl
            refine pure_ (i := 11) (N := some 40) (v := undef) (a' := ?_) #[true, true, true, true, true, true, true, true, true, true, true, true, false, false] rfl rfl (any_of HT_.out (by kernel_rfl)) (fun _ _ _ h => h) (Or.inr ⟨by rfl, rfl⟩) ?_ ?_
            rotate_left
            ·simp only [Act.put, sI, s0_, s1_, i64_w, i32_w]
             rfl
            refine pure_ (i := 12) (N := some 41) (v := undef) (a' := ?_) #[true, true, true, true, true, true, true, true, true, true, true, true, true, false] rfl rfl (any_of HT_.out (by kernel_rfl)) (fun _ _ _ h => h) (Or.inr ⟨by rfl, rfl⟩) ?_ ?_
            rotate_left
            ·simp only [Act.put, sI, s0_, s1_, i64_w, i32_w]
             rfl
            refine pure_ (i := 13) (N := some 42) (v := ?_) (a' := ?_) #[true, true, true, true, true, true, true, true, true, true, true, true, true, true] rfl rfl (any_of HT_.out (by kernel_rfl)) (fun _ _ _ h => h) (Or.inl ⟨by rfl, ?_⟩) ?_ ?_
            rotate_left
            ·intro w'
             go_simp
             with_reducible rfl
            rotate_left
            ·simp only [Act.put, sI, s0_, s1_, i64_w, i32_w]
             rfl
            refine done_ (done_of HT_.out (by kernel_rfl)) ?_
            try go_wp2_with (first | ((with_reducible refine gate_builtin (b := .append) (xs := #[.tmp 53, .tmp 55]) rfl ?_); at_builtin; refine Kd.N_append k83 (w0 := w0) w0.heap.size rfl (.tmp 53) (.tmp 55) 80 83 (.agg #[(.slice none 0 0), (.slice none 0 0), (.int .i64 0), (.int .i64 0)]) 64 rfl Try.underlying80 info83 rfl (by decide) (by omega) (.slice A0 t250.length c0) t250 (⟨(⟨([] : List Int), ([] : List Int), 0⟩ : S27), 0⟩ : S83) [.slice none 0 0, .slice none 0 0, .int .i64 0, .int .i64 0] (fun k_ => ((P1_0_ k_ ∨ P1_1_ k_) ∨ w.heap.size ≤ k_) ∧ k_ ≠ gb249) (fun k_ => ((fun k_ => ((P1_0_ k_ ∨ P1_1_ k_) ∨ w.heap.size ≤ k_) ∧ k_ ≠ gb249)) k_ ∧ some k_ ≠ (.slice A0 t250.length c0 : Value).ownBlock) rfl rfl ?aP (fun _ hk => hk) ?aF ?aO ?aB ?aS ?aL ?_; (case aP => exact (k83_mkF _ _ (⟨(⟨([] : List Int), ([] : List Int), 0⟩ : S27), 0⟩ : S83) (Nat.le_refl _) (Kd.F_nil _ _ _) (Nat.le_refl _) (Kd.F_nil _ _ _))); (case aB => exact (by repeat (with_reducible first | exact HB.out | apply bA | apply bN | apply bD | refine bS ?_ GE249.out))); (case aF => exact (fun k_ hk => ⟨(.inr (Nat.le_trans (BXG.size (by (with_reducible repeat (first | refine BX_drewN ?_ _ | refine BX_drew ?_ | refine BX_alloc ?_ _)); exact BX.out)) hk)), Kd.freshB (g := gb249) (by (with_reducible repeat (first | apply kB | apply kC | apply kE)); exact BK249.out) k_ hk⟩)); (case aO => exact (by (with_reducible repeat (first | apply nA | apply nN | apply nD)); exact HO_0.out)); (case aS => exact (below_size (by repeat (with_reducible first | exact HB.out | apply bA | apply bN | apply bD | refine bS ?_ GE249.out)))); (case aL => have := LMc47.out; omega); intro v277 w57 ho hb hg hat; rw [← Ny276.out] at ho; have n0_ := am (Kd.V_afterv (ok := (fun k_ => ((P1_0_ k_ ∨ P1_1_ k_) ∨ w.heap.size ≤ k_) ∧ k_ ≠ gb249)) (by (with_reducible repeat (first | apply vA | apply vN | apply vD)); exact Kd.V_mono HO_250000.out (fun _ hk => ⟨⟨hk.1, hk.2.2⟩, hk.2.1⟩)) hg hat); have n1_ := am (Kd.V_afterv (ok := (fun k_ => ((P1_0_ k_ ∨ P1_1_ k_) ∨ w.heap.size ≤ k_) ∧ k_ ≠ gb249)) (by (with_reducible repeat (first | apply vA | apply vN | apply vD)); exact Kd.V_mono HO_250001.out (fun _ hk => ⟨⟨hk.1, hk.2.2⟩, hk.2.1⟩)) hg hat); have nBX_ := am (BX_grown (by (with_reducible repeat (first | refine BX_drewN ?_ _ | refine BX_drew ?_ | refine BX_alloc ?_ _)); exact BX.out) hg hat); have n2_ := am (blk_grown (g := gb249) (by (with_reducible repeat (first | apply kB | apply kC | apply kE)); exact BK249.out) hg (Kd.N_ne HO_0.out BK249.out (by decide))); have n3_ := am (hb); have n4_ := am (ho); clear HO_250000; clear HO_250001; clear BK249 BX; clear HB; clear HO_0; have HO_250000 := n0_; have HO_250001 := n1_; have BK249 := n2_; have BX := nBX_; clear nBX_; have HB := n3_; have HO278 := n4_; clear n0_ n1_ n2_ n3_ n4_; clear ho hb hg hat))
            have n0_ := am (vD HO_250000.out)
            have n1_ := am (vD HO_250001.out)
            have n2_ := am (nD HO278.out)
            have nBX_ := am (BX_drew BX.out); have n3_ := am (kC BK249.out)
            have n4_ := am (below_drew1 HB.out)
            clear HO_250000 HO_250001 HO278 BK249 BX HB
            have HO_250000 := n0_
            have HO_250001 := n1_
            have HO278 := n2_
            have BK249 := n3_; have BX := nBX_; clear nBX_
            have HB := n4_
            clear n0_ n1_ n2_ n3_ n4_
            obtain ⟨Ao60, co60, eo60⟩ := Kd.N_slice HO278.out
            (first | subst eo60 | (injection eo60 with f1_ f2_ f3_; have f4_ := f1_.symm; have f5_ := f3_.symm; clear f1_ f2_ f3_; subst f4_; subst f5_))
            have q59 : ((ji48) : Int) ≤ ((y276.length : Int) : Int) := ofd (by assumption)
            obtain ⟨i059, hi059, _, hsz59, _⟩ := info_parts info83
            have hroom59 : y276.length ≤ co60 := (Kd.N_reads' HO278.out).2.1
            have hC59 : Kd.F k83 _ _ Ao60 y276.length y276 := (Kd.V_at (base := w0.heap.size) (Kd.N_V HO278.out)).2.2
            have q059 : (0 : Int) ≤ ((ji48) : Int) := ofd (by assumption)
            have hcut59 := cut_from (P := Try.prog) 80 83 .i64 Try.underlying80 hi059 4 hsz59 Ao60 y276.length co60 (ji48) q059 q59
            have hr59 := Kd.F_cut (m := ((ji48) : Int).toNat) (c := co60) hC59 (by omega) hroom59
            obtain ⟨A59, hA59⟩ : ∃ A1, A1 = (if co60 = ((ji48) : Int).toNat then Ao60 else (Ao60 : Option Addr).map (·.add (((ji48) : Int).toNat * 4))) := ⟨_, rfl⟩
            obtain ⟨c59, hc59⟩ : ∃ c1, c1 = co60 - ((ji48) : Int).toNat := ⟨_, rfl⟩
            have hy59 : y279.length = y276.length - ((ji48) : Int).toNat := (by rw [Ny279.out, List.length_drop] <;> omega)
            rw [show (y276).drop ((ji48) : Int).toNat = y279 from Ny279.out.symm] at hr59
            replace hr59 : Kd.F k83 _ _ A59 y279.length y279 := (by rw [hA59]; exact hr59)
            rw [← hy59, ← hA59, ← hc59] at hcut59
            have HO283 := am (show Kd.V k83 83 _ w0.heap.size _ (.slice A59 y279.length c59) y279 from Kd.V_mk (by rw [hy59, hc59]; exact Nat.sub_le_sub_right hroom59 _) hr59)
            have HC283 := am (show y279.length ≤ c59 from by rw [hy59, hc59]; exact Nat.sub_le_sub_right hroom59 _)
            clear hr59 hC59 hroom59 hi059 hsz59 hc59
            have KY59 := am hy59
            have KA59 := am hA59
            clear hy59 hA59
            replace q59 := eq_true q59
            have q61 : (x7_1 : Int) ≤ ((y276.length : Int) : Int) := ofd (by assumption)
            obtain ⟨i061, hi061, _, hsz61, _⟩ := info_parts info83
            have hroom61 : y276.length ≤ co60 := (Kd.N_reads' HO278.out).2.1
            have hC61 : Kd.F k83 _ _ Ao60 y276.length y276 := (Kd.V_at (base := w0.heap.size) (Kd.N_V HO278.out)).2.2
            have q061 : (0 : Int) ≤ (x7_1 : Int) := ofd (by assumption)
            have hcut61 := cut_from (P := Try.prog) 80 83 .i64 Try.underlying80 hi061 4 hsz61 Ao60 y276.length co60 x7_1 q061 q61
            have hr61 := Kd.F_cut (m := (x7_1 : Int).toNat) (c := co60) hC61 (by omega) hroom61
            obtain ⟨A61, hA61⟩ : ∃ A1, A1 = (if co60 = (x7_1 : Int).toNat then Ao60 else (Ao60 : Option Addr).map (·.add ((x7_1 : Int).toNat * 4))) := ⟨_, rfl⟩
            obtain ⟨c61, hc61⟩ : ∃ c1, c1 = co60 - (x7_1 : Int).toNat := ⟨_, rfl⟩
            have hy61 : y284.length = y276.length - (x7_1 : Int).toNat := (by rw [Ny284.out, List.length_drop] <;> omega)
            rw [show (y276).drop (x7_1 : Int).toNat = y284 from Ny284.out.symm] at hr61
            replace hr61 : Kd.F k83 _ _ A61 y284.length y284 := (by rw [hA61]; exact hr61)
            rw [← hy61, ← hA61, ← hc61] at hcut61
            have HO288 := am (show Kd.V k83 83 _ w0.heap.size _ (.slice A61 y284.length c61) y284 from Kd.V_mk (by rw [hy61, hc61]; exact Nat.sub_le_sub_right hroom61 _) hr61)
            have HC288 := am (show y284.length ≤ c61 from by rw [hy61, hc61]; exact Nat.sub_le_sub_right hroom61 _)
            clear hr61 hC61 hroom61 hi061 hsz61 hc61
            have KY61 := am hy61
            have KA61 := am hA61
            clear hy61 hA61
            replace q61 := eq_true q61
            refine start_ (n := 8) (S := fun w' => True) (ds := []) #[false, false, false, false, false, false, false, false] (by kernel_rfl) rfl rfl trivial (fun hHeld => ?_); refine with_tabW spec_stPut.tab11 spec_stPut.bits11 (fun HT_ HW_ => ?_)
            generalize w57.drew = w58 at HO_250000 HO_250001 HO278 BK249 BX HB HO283 HO288 hHeld ⊢
            refine pure_ (i := 0) (N := some 57) (v := ?_) (a' := ?_) #[true, false, false, false, false, false, false, false] rfl rfl (any_of HT_.out (by kernel_rfl)) (fun _ _ _ h => h) (Or.inl ⟨by rfl, ?_⟩) ?_ ?_
            rotate_left
            ·intro w'
             go_simp
             with_reducible rfl
            rotate_left
            ·simp only [Act.put, sI, s0_, s1_, i64_w, i32_w]
             rfl
            refine pure_ (i := 1) (N := some 58) (v := ?_) (a' := ?_) #[true, true, false, false, false, false, false, false] rfl rfl (any_of HT_.out (by kernel_rfl)) (fun _ _ _ h => h) (Or.inl ⟨by rfl, ?_⟩) ?_ ?_
            rotate_left
            ·intro w'
             go_simp
             with_reducible rfl
            rotate_left
            ·simp only [Act.put, sI, s0_, s1_, i64_w, i32_w]
             rfl
            refine pure_ (i := 2) (N := some 59) (v := ?_) (a' := ?_) #[true, true, true, false, false, false, false, false] rfl rfl (any_of HT_.out (by kernel_rfl)) (fun _ _ _ h => h) (Or.inl ⟨by rfl, ?_⟩) ?_ ?_
            rotate_left
            ·intro w'
             go_simp
             with_reducible rfl
            rotate_left
            ·simp only [Act.put, sI, s0_, s1_, i64_w, i32_w]
             rfl
            refine pure_ (i := 3) (N := some 60) (v := ?_) (a' := ?_) #[true, true, true, true, false, false, false, false] rfl rfl (any_of HT_.out (by kernel_rfl)) (fun _ _ _ h => h) (Or.inl ⟨by rfl, ?_⟩) ?_ ?_
            rotate_left
            ·intro w'
             go_simp
             with_reducible rfl
            rotate_left
            ·simp only [Act.put, sI, s0_, s1_, i64_w, i32_w]
             rfl
            refine pure_ (i := 4) (N := some 61) (v := ?_) (a' := ?_) #[true, true, true, true, true, false, false, false] rfl rfl (any_of HT_.out (by kernel_rfl)) (fun _ _ _ h => h) (Or.inl ⟨by rfl, ?_⟩) ?_ ?_
            rotate_left
            ·intro w'
             go_simp
             with_reducible rfl
            rotate_left
            ·simp only [Act.put, sI, s0_, s1_, i64_w, i32_w]
             rfl
            refine pure_ (i := 5) (N := some 62) (v := ?_) (a' := ?_) #[true, true, true, true, true, true, false, false] rfl rfl (any_of HT_.out (by kernel_rfl)) (fun _ _ _ h => h) (Or.inl ⟨by rfl, ?_⟩) ?_ ?_
            rotate_left
            ·intro w'
             go_simp
             with_reducible rfl
            rotate_left
            ·simp only [Act.put, sI, s0_, s1_, i64_w, i32_w]
             rfl
            refine pure_ (i := 6) (N := some 63) (v := ?_) (a' := ?_) #[true, true, true, true, true, true, true, false] rfl rfl (any_of HT_.out (by kernel_rfl)) (fun _ _ _ h => h) (Or.inl ⟨by rfl, ?_⟩) ?_ ?_
            rotate_left
            ·intro w'
             go_simp
             with_reducible rfl
            rotate_left
            ·simp only [Act.put, sI, s0_, s1_, i64_w, i32_w]
             rfl
            refine one_ (i := 7) (N := some 64) #[true, true, true, true, true, true, true, true] rfl rfl (one_of HT_.out (by kernel_rfl)) (by decide) (fun K hK => ?_)
            have q0_ : (x7_1 : Int) ≤ (y276.length : Int) := ofd (by assumption)
            have q1_ : (0 : Int) ≤ x7_1 := ofd (by assumption)
            have q2_ : (ji48 : Int) ≤ (y276.length : Int) := ofd (by assumption)
            have e_ : (ji48).toNat = (x7_1 : Int).toNat + 1 := by (have h1_ : wrap64 (x7_1 + 1) = ji48 := (i64_w _).symm.trans hji48w; have h2_ := LMc53.out; unfold wrap64 at h1_; omega)
            have hlt_ : (x7_1 : Int).toNat < y276.length := by omega
            refine N_shift_step k83 rfl (w0 := w0) w0.heap.size (by rfl) (.tmp 60) (.tmp 63) 80 83 rfl Try.underlying80 (by kernel_rfl) Ao60 A59 A61 co60 c59 c61 _ _ y276 (x7_1 : Int).toNat (ji48 : Int).toNat (fun k_ => ((P1_0_ k_ ∨ P1_1_ k_) ∨ w.heap.size ≤ k_) ∧ k_ ≠ gb249) rfl rfl hlt_ e_ KY59.out KY61.out KA59.out KA61.out ?aO ?aB ?aS ?_
            (case aO => exact (by (with_reducible repeat (first | apply nA | apply nN | apply nD)); exact HO278.out))
            (case aB => exact (by repeat (with_reducible first | exact HB.out | apply bA | apply bN | apply bD | refine bS ?_ GE249.out)))
            (case aS => exact (below_size (by repeat (with_reducible first | exact HB.out | apply bA | apply bN | apply bD | refine bS ?_ GE249.out))))
            intro v290 w62 ho hb hg hat ev_
            rw [← Ny289.out] at ho ev_
            have HLS_ : Aside0 (y276.length = y289.length) := ⟨by rw [Ny289.out]; exact (shiftL_len _ _ hlt_).symm⟩
            clear q0_ q1_ q2_ e_ hlt_
            have n0_ := am (Kd.V_afterv (ok := (fun k_ => ((P1_0_ k_ ∨ P1_1_ k_) ∨ w.heap.size ≤ k_) ∧ k_ ≠ gb249)) (by (with_reducible repeat (first | apply vA | apply vN | apply vD)); exact HO_250000.out) hg hat)
            have n1_ := am (Kd.V_afterv (ok := (fun k_ => ((P1_0_ k_ ∨ P1_1_ k_) ∨ w.heap.size ≤ k_) ∧ k_ ≠ gb249)) (by (with_reducible repeat (first | apply vA | apply vN | apply vD)); exact HO_250001.out) hg hat)
            have nBX_ := am (BX_grown (by (with_reducible repeat (first | refine BX_drewN ?_ _ | refine BX_drew ?_ | refine BX_alloc ?_ _)); exact BX.out) hg hat); have n2_ := am (blk_grown (g := gb249) (by (with_reducible repeat (first | apply kB | apply kC | apply kE)); exact BK249.out) hg (Kd.N_ne HO278.out BK249.out (by decide)))
            have n3_ := am (hb)
            have n4_ := am (ho)
            clear HO_250000 HO_250001 BK249 BX HB HO278
            have HO_250000 := n0_
            have HO_250001 := n1_
            have BK249 := n2_; have BX := nBX_; clear nBX_
            have HB := n3_
            have HO291 := n4_
            clear n0_ n1_ n2_ n3_ n4_ ho hb hg hat
            refine hK.out _ _ trivial (fun hHeld => ?_)
            clear hK K
            refine norm_ (a' := ?_) ?_ ?_
            rotate_left
            ·show Act.put _ (some 64) _ = _
             simp only [Act.put, sI, s0_, s1_, i64_w, i32_w]
             rfl
            refine done_ (done_of HT_.out (by kernel_rfl)) ?_
            rw [HLS_.out]
            have hcz63_0 : w62.cell? ⟨gb249, 0, none⟩ = some (.slice A1_0 l1_0.length c1_0) := (blk_cell BK249.out 0).trans rfl
            have hcz63_1 : w62.cell? ⟨gb249, 1, none⟩ = some (.slice A1_1 l1_1.length c1_1) := (blk_cell BK249.out 1).trans rfl
            have hcz63_2 : w62.cell? ⟨gb249, 2, none⟩ = some (.int .i64 a1_2) := (blk_cell BK249.out 2).trans rfl
            have hfz63_0 := blk_frozen BK249.out 0
            have hfz63_1 := blk_frozen BK249.out 1
            have hfz63_2 := blk_frozen BK249.out 2
            have p55 : 0 ≤ (x7_1 : Int) := ofd (by assumption)
            have q55 : (x7_1 : Int) < ((y289.length : Int) : Int) := ofd (by assumption)
            obtain ⟨go55, co55, eo55, gb55, gl55, cl55, HG55⟩ := Kd.N_form HO291.out (by omega)
            (first | cases eo55 | (injection eo55 with ea_ en_ ec_; (first | subst ea_ | (injection ea_ with ea_; subst ea_)); subst ec_; clear en_))
            (injection ev_ with f1_ f2_ f3_; clear f2_; subst f1_; subst f3_)
            have GB55 := am gb55
            have GG55 := am HG55
            clear gb55 gl55 HG55
            obtain ⟨ce55, hcl55, hM55, hcc55, hfr55⟩ := Kd.N_elem HO291.out z83 (x7_1 : Int) p55 q55
            obtain ⟨ua55_0, uc55_0, ua55_1, uc55_1, rfl, ul55_0, ge55_0, ul55_1, ge55_1⟩ := k83_openF hM55
            have hx55_0 : w62.cell? ⟨go55, (x7_1 : Int).toNat * 4, none⟩ = some (.slice ua55_0 ((rd_T83 y289 x7_1).f0.f0).length uc55_0) := hcc55 0 _ rfl
            have hx55_1 : w62.cell? ⟨go55, (x7_1 : Int).toNat * 4 + 1, none⟩ = some (.slice ua55_1 ((rd_T83 y289 x7_1).f0.f1).length uc55_1) := hcc55 1 _ rfl
            have hx55_2 : w62.cell? ⟨go55, (x7_1 : Int).toNat * 4 + 2, none⟩ = some (.int .i64 ((rd_T83 y289 x7_1).f0.f2)) := hcc55 2 _ rfl
            have hx55_3 : w62.cell? ⟨go55, (x7_1 : Int).toNat * 4 + 3, none⟩ = some (.int .i64 ((rd_T83 y289 x7_1).f1)) := hcc55 3 _ rfl
            have hf55_0 : w62.frozen? ⟨go55, (x7_1 : Int).toNat * 4, none⟩ = false := hfr55 0
            have hf55_1 : w62.frozen? ⟨go55, (x7_1 : Int).toNat * 4 + 1, none⟩ = false := hfr55 1
            have hf55_2 : w62.frozen? ⟨go55, (x7_1 : Int).toNat * 4 + 2, none⟩ = false := hfr55 2
            have hf55_3 : w62.frozen? ⟨go55, (x7_1 : Int).toNat * 4 + 3, none⟩ = false := hfr55 3
            clear hcl55 hcc55 hfr55 hM55
            replace p55 := eq_true p55
            replace q55 := eq_true q55
            have HX64 := am (show Kd.N k83 83 w62 w0.heap.size (fun k_ => ((P1_0_ k_ ∨ P1_1_ k_) ∨ w.heap.size ≤ k_) ∧ k_ ≠ gb249) (.slice (some ⟨go55, 0, none⟩) y289.length co55) y289 from (by (with_reducible repeat (first | apply nA | apply nN | apply nD)); exact HO291.out))
            obtain ⟨ce64, hcl64, hM64, hcc64, hfr64⟩ := Kd.N_elem HX64.out z83 (x7_1 : Int) (ofd (by assumption)) (by have h_ : (x7_1 : Int) < ((y289.length : Int) : Int) := ofd (by assumption); first | exact h_ | (have e_ := (Kd.N_reads' HO291.out).1; omega) | simpa using h_)
            obtain ⟨ua64_0, uc64_0, ua64_1, uc64_1, rfl, ul64_0, ge64_0, ul64_1, ge64_1⟩ := k83_openF hM64
            have HP64 := Kd.N_seg HX64.out (x7_1 : Int) (ofd (by assumption)) (by have h_ : (x7_1 : Int) < ((y289.length : Int) : Int) := ofd (by assumption); first | exact h_ | (have e_ := (Kd.N_reads' HO291.out).1; omega) | simpa using h_) (seg := [.slice A1_0 l1_0.length c1_0, .slice A1_1 l1_1.length c1_1, .int .i64 a1_2, .int .i64 a2]) (j := 0) hcl64 hcc64 (show 4 ≤ 4 from by decide) (x' := (⟨(⟨l1_0, l1_1, a1_2⟩ : S27), a2⟩ : S83)) (k83_mkF _ _ (⟨(⟨l1_0, l1_1, a1_2⟩ : S27), a2⟩ : S83) (Kd.V_reads' (Kd.V_mono (ok' := (fun k_ => ((fun k_ => ((P1_0_ k_ ∨ P1_1_ k_) ∨ w.heap.size ≤ k_) ∧ k_ ≠ gb249)) k_ ∧ k_ ≠ go55)) (HO_250000.out) (fun k_ hk => ⟨⟨hk.1.1, hk.1.2⟩, fun e_ => (hk.2) (by rw [e_]; rfl)⟩))).2.1 (Kd.V_F (Kd.V_mono (ok' := (fun k_ => ((fun k_ => ((P1_0_ k_ ∨ P1_1_ k_) ∨ w.heap.size ≤ k_) ∧ k_ ≠ gb249)) k_ ∧ k_ ≠ go55)) (HO_250000.out) (fun k_ hk => ⟨⟨hk.1.1, hk.1.2⟩, fun e_ => (hk.2) (by rw [e_]; rfl)⟩))) (Kd.V_reads' (Kd.V_mono (ok' := (fun k_ => ((fun k_ => ((P1_0_ k_ ∨ P1_1_ k_) ∨ w.heap.size ≤ k_) ∧ k_ ≠ gb249)) k_ ∧ k_ ≠ go55)) (HO_250001.out) (fun k_ hk => ⟨⟨hk.1.1, hk.1.2⟩, fun e_ => (hk.2) (by rw [e_]; rfl)⟩))).2.1 (Kd.V_F (Kd.V_mono (ok' := (fun k_ => ((fun k_ => ((P1_0_ k_ ∨ P1_1_ k_) ∨ w.heap.size ≤ k_) ∧ k_ ≠ gb249)) k_ ∧ k_ ≠ go55)) (HO_250001.out) (fun k_ hk => ⟨⟨hk.1.1, hk.1.2⟩, fun e_ => (hk.2) (by rw [e_]; rfl)⟩)))) (fun _ hk => hk)
            have hx64_0 := hcc64 0 _ rfl
            (try simp only [show (k83).sz = 4 from rfl, Nat.mul_one, Nat.add_zero] at hx64_0)
            have hf64_0 := hfr64 0
            (try simp only [show (k83).sz = 4 from rfl, Nat.mul_one, Nat.add_zero] at hf64_0)
            have hx64_1 := hcc64 1 _ rfl
            (try simp only [show (k83).sz = 4 from rfl, Nat.mul_one, Nat.add_zero] at hx64_1)
            have hf64_1 := hfr64 1
            (try simp only [show (k83).sz = 4 from rfl, Nat.mul_one, Nat.add_zero] at hf64_1)
            have hx64_2 := hcc64 2 _ rfl
            (try simp only [show (k83).sz = 4 from rfl, Nat.mul_one, Nat.add_zero] at hx64_2)
            have hf64_2 := hfr64 2
            (try simp only [show (k83).sz = 4 from rfl, Nat.mul_one, Nat.add_zero] at hf64_2)
            have hx64_3 := hcc64 3 _ rfl
            (try simp only [show (k83).sz = 4 from rfl, Nat.mul_one, Nat.add_zero] at hx64_3)
            have hf64_3 := hfr64 3
            (try simp only [show (k83).sz = 4 from rfl, Nat.mul_one, Nat.add_zero] at hf64_3)
            clear hcl64 hcc64 hfr64 hM64
            try go_wp2_with (first | ((with_reducible refine gate_store (t := 83) (p := 70) rfl ?_); refine store_event (t := 83) (p := 70) (v := ?vo_w65) (w1 := ((((w62.setCell ⟨go55, (x7_1 : Int).toNat * 4, none⟩ (.slice A1_0 l1_0.length c1_0)).setCell ⟨go55, (x7_1 : Int).toNat * 4 + 1, none⟩ (.slice A1_1 l1_1.length c1_1)).setCell ⟨go55, (x7_1 : Int).toNat * 4 + 2, none⟩ (.int .i64 a1_2)).setCell ⟨go55, (x7_1 : Int).toNat * 4 + 3, none⟩ (.int .i64 a2))) ?hg ?ho ?hn ?hr ?_; (case ho => rfl); (case hg => rfl); (case hn => rfl); (case hr => first | (go_simp; done) | (go_simp; rfl)); intro w65 hw; have hg : w62.grownBy w65 (some go55) := (by rw [hw]; exact HP64.2); have hp_ : Kd.N k83 83 w65 w0.heap.size (fun k_ => ((P1_0_ k_ ∨ P1_1_ k_) ∨ w.heap.size ≤ k_) ∧ k_ ≠ gb249) (.slice (some ⟨go55, 0, none⟩) y289.length co55) y292 := (by rw [hw, Ny292.out]; exact HP64.1); clear HP64; have n0_ := am (Kd.V_afterv (v := (.slice (some ⟨go55, 0, none⟩) y289.length co55)) (v1 := (.slice (some ⟨go55, 0, none⟩) y289.length co55)) (ok := (fun k_ => ((P1_0_ k_ ∨ P1_1_ k_) ∨ w.heap.size ≤ k_) ∧ k_ ≠ gb249)) (by (with_reducible repeat (first | apply vA | apply vN | apply vD)); exact HO_250000.out) hg (.inl rfl)); have n1_ := am (Kd.V_afterv (v := (.slice (some ⟨go55, 0, none⟩) y289.length co55)) (v1 := (.slice (some ⟨go55, 0, none⟩) y289.length co55)) (ok := (fun k_ => ((P1_0_ k_ ∨ P1_1_ k_) ∨ w.heap.size ≤ k_) ∧ k_ ≠ gb249)) (by (with_reducible repeat (first | apply vA | apply vN | apply vD)); exact HO_250001.out) hg (.inl rfl)); have nBX_ := am (BX_same (v := (.slice (some ⟨go55, 0, none⟩) y289.length co55)) (by (with_reducible repeat (first | refine BX_drewN ?_ _ | refine BX_drew ?_ | refine BX_alloc ?_ _)); exact BX.out) hg); have n2_ := am (blk_grown (g := gb249) (by (with_reducible repeat (first | apply kB | apply kC | apply kE)); exact BK249.out) hg (Kd.N_ne HO291.out BK249.out (by decide))); have n3_ := am (hp_); have n4_ := am ((by rw [hw]; exact bS (bS (bS (bS (HB.out) GB55.out) GB55.out) GB55.out) GB55.out : Below w0.heap.size w0 w65)); clear HO_250000; clear HO_250001; clear BK249 BX; clear HO291; clear HB; have HO_250000 := n0_; have HO_250001 := n1_; have BK249 := n2_; have BX := nBX_; clear nBX_; have HO291 := n3_; have HB := n4_; clear n0_ n1_ n2_ n3_ n4_; clear hg hw hp_))
            go_ret
            exact ⟨_, by first | rfl | (simp [errW_none, errW_some] <;> rfl) | (simp only [← hji48]; first | rfl | (simp [errW_none, errW_some] <;> rfl)) | (simp [*, errW_none, errW_some] <;> rfl), by (with_reducible repeat (first | apply nA | apply nN | apply nD)); exact Kd.N_mono HO291.out (fun _ hk => hk.1), by repeat (with_reducible first | exact HB.out | apply bA | apply bN | apply bD | refine bS ?_ GE249.out), by (with_reducible repeat (first | refine BX_drewN ?_ _ | refine BX_drew ?_ | refine BX_alloc ?_ _)); exact BX.out⟩
           ·rw [if_neg c54] at H
            exact absurd H (by simp)
          ·rw [if_neg c53] at H
           exact absurd H (by simp)
         ·rw [if_neg c52] at H
          exact absurd H (by simp)
        ·rw [if_neg c51] at H
         exact absurd H (by simp)
       ·rw [if_neg c50] at H
        exact absurd H (by simp)
      ·rw [if_neg c49] at H
       exact absurd H (by simp)
     ·rw [if_neg c47] at H
      exact absurd H (by simp)
end Go.Proofs.Ytlbaldejaapbiaa.QFnExactStatesAfter
