-- Written by wip/myprint.py (a program of mine round the kit's printer). Lean checks it.
import Derived.Test.YtlbaldejaapbiaaQFnExactStepStatex0
namespace Go.Proofs.Ytlbaldejaapbiaa.QFnExactStepState
open Go.RowKit Go.Proofs.YtlbaldejaapbiaaW.PrintWords Go.Proofs.YtlbaldejaapbiaaW.PrintLast Go.Proofs.YtlbaldejaapbiaaW.PrintMore
attribute [local go_sem] max2_int min2_int max_two min_two max_three min_three max_four min_four   -- for this text's walks alone
set_option linter.unusedVariables false
set_option linter.unusedSimpArgs false

set_option maxHeartbeats 8000000
set_option maxRecDepth 100000
/-! ### impl_renumbered: function 43 (by hand) -/
/-! ### Names in the order in which they come -/
/-- The map names the numbers seen so far by their places. -/
structure MapAs (D : DataW Unit) (seen : List Int) : Prop where
 tidy : Go.Maps.Tidy D
 size : Go.Maps.size D = seen.length
 has : ∀ x, Go.Maps.has D (.int .i64 x) = decide (x ∈ seen)
 at_ : ∀ x, x ∈ seen → D.atKey (.int .i64 x) (.lit (.int .i64 0)) = .lit (.int .i64 (seen.idxOf x : Nat))
theorem MapAs.start : MapAs (.map [] : DataW Unit) [] := ⟨Go.Maps.tidy_empty, rfl, fun x => by simp [Go.Maps.has_eq], fun x hx => by cases hx⟩
theorem MapAs.put {D : DataW Unit} {seen : List Int} (h : MapAs D seen) {x : Int} (hx : x ∉ seen) : MapAs (D.put (.int .i64 x) (.lit (.int .i64 (seen.length : Nat)))) (seen ++ [x]) := by
 have hh : Go.Maps.has D (.int .i64 x) = false := by rw [h.has]; simp [hx]
 refine ⟨h.tidy.put (show WideAt.IsKeyLit (Lit.int .i64 x) from trivial) _, ?_, fun y => ?_, fun y hy => ?_⟩
 ·rw [Go.Maps.size_put h.tidy, hh, h.size]; simp
 ·by_cases e : y = x
  ·subst e
   rw [Go.Maps.has_put_same h.tidy.isMap (show WideAt.IsKeyLit (Lit.int .i64 y) from trivial)]; simp
  ·rw [Go.Maps.has_put_other (by intro e2; injection e2 with _ e2; exact e e2), h.has]
   simp [e]
 ·by_cases e : y = x
  ·subst e
   rw [Go.Maps.atKey_put_same h.tidy.isMap (show WideAt.IsKeyLit (Lit.int .i64 y) from trivial), List.idxOf_append, if_neg hx]; simp
  ·rw [Go.Maps.atKey_put_other (by intro e2; injection e2 with _ e2; exact e e2)]
   have hy2 : y ∈ seen := by simpa [e] using hy
   rw [h.at_ y hy2, List.idxOf_append, if_pos hy2]
def seeOne (seen : List Int) (x : Int) : List Int := if x ∈ seen then seen else seen ++ [x]
def ofSeen : List Int → List Int → List Int
 | seen, [] => seen
 | seen, x :: l => ofSeen (seeOne seen x) l
def ofOut : List Int → List Int → List Int
 | _, [] => []
 | seen, x :: l => (((seeOne seen x).idxOf x : Nat) : Int) :: ofOut (seeOne seen x) l
theorem ofSeen_snoc (x : Int) : ∀ (l seen : List Int), ofSeen seen (l ++ [x]) = seeOne (ofSeen seen l) x
 | [], _ => rfl
 | y :: l, seen => ofSeen_snoc x l (seeOne seen y)
theorem ofOut_snoc (x : Int) : ∀ (l seen : List Int), ofOut seen (l ++ [x]) = ofOut seen l ++ [(((seeOne (ofSeen seen l) x).idxOf x : Nat) : Int)]
 | [], _ => rfl
 | y :: l, seen => congrArg (_ :: ·) (ofOut_snoc x l (seeOne seen y))
theorem ofOut_length : ∀ (l seen : List Int), (ofOut seen l).length = l.length
 | [], _ => rfl
 | y :: l, seen => congrArg (· + 1) (ofOut_length l (seeOne seen y))
theorem seeOne_mem (seen : List Int) (x : Int) : x ∈ seeOne seen x := by
 unfold seeOne
 split
 ·assumption
 ·simp
theorem seeOne_length (seen : List Int) (x : Int) : (seeOne seen x).length ≤ seen.length + 1 := by
 unfold seeOne
 split
 ·omega
 ·simp
theorem ofSeen_length : ∀ (l seen : List Int), (ofSeen seen l).length ≤ seen.length + l.length
 | [], _ => by simp [ofSeen]
 | y :: l, seen => by
  have h1 := ofSeen_length l (seeOne seen y)
  have h2 := seeOne_length seen y
  simp only [ofSeen, List.length_cons]
  omega
/-- All numbers are of the kind. -/
def wfB (l : List Int) : Bool := l.all fun x => (Lit.int .i64 x).wf
theorem wfB_rd {l : List Int} (h : wfB l = true) {i : Int} (h0 : 0 ≤ i) (h1 : i < (l.length : Int)) : (Lit.int .i64 (rd l i)).wf = true := by
 have e : rd l i ∈ l := by
  unfold rd
  rw [List.getD_eq_getElem?_getD, List.getElem?_eq_getElem (by omega)]
  exact List.getElem_mem _
 exact List.all_eq_true.1 h _ e
theorem wf_small {n : Nat} (h : n < 4611686018427387904) : (Lit.int .i64 (n : Nat)).wf = true := WalkArith.wf_i64 (by omega)
theorem R_grownE {e : TypeId} {w w1 : World} {base : Nat} {v : Value} {xs : List Int} {row : Option Nat} (h : (Kd.int .i64).R e w base (fun _ => True) v xs) (hg : w.grownBy w1 row) (hok : ∀ k, v.ownBlock = some k → some k ≠ row) : (Kd.int .i64).R e w1 base (fun _ => True) v xs :=
 Kd.R_mono (Kd.R_grown (Kd.R_tight rfl h) hg (fun k hk => hok k hk.symm)) (fun _ _ => trivial)
theorem take_snoc (l : List Int) (i : Nat) (h : i < l.length) : l.take (i + 1) = l.take i ++ [rd l (i : Int)] := by
 rw [List.take_add_one, List.getElem?_eq_getElem h]
 unfold rd
 rw [Int.toNat_natCast, List.getD_eq_getElem?_getD, List.getElem?_eq_getElem h]; rfl
theorem impl_renumbered.zero (w : World) : (zeroValue 3).run Try.prog w = .ok (.int .i64 0) w := by
 have h : (Try.prog.info? 3).map (fun i => i.zero) = some (some (.int .i64 0)) := by kernel_rfl
 obtain ⟨i, hi, hz⟩ := Option.map_eq_some_iff.1 h
 simp [zeroValue, typeInfo, hi, hz]
theorem own_step {P : Program} {k : TypeId} {R : Value → Option (DataW Unit × List MemPlace)} {b n : Nat} {D : DataW Unit} {w w1 : World} (h : w.ownsMap P k R b n D) (e : w1.heap[b]? = w.heap[b]?) : w1.ownsMap P k R b n D := by
 obtain ⟨es, clock, hb, r⟩ := h
 exact ⟨es, clock, e.trans hb, r⟩
open Go.Maps in
theorem impl_renumbered.clo (A0 : Option Addr) (c0 : Nat) (l : List Int) (gb gm n : Nat) (seen : List Int) (D : DataW Unit) (w0 w : World) (hB : Below w0.heap.size w0 w) (hgm : w0.heap.size ≤ gm) (hr : ∀ W, Kept w W (fun k => k = gm) → Kd.C (Kd.int .i64) W A0 l.length l) (hc : l.length ≤ c0) (hwf : wfB l = true) (hl : l.length ≤ 1000000) (hn : n ≤ 1000000) (hbox : w.cell? ⟨gb, 0, none⟩ = some (.map (some gm))) (hown : w.ownsMap Try.prog 3 (plainElem Try.prog 3) gm n D) (hD : MapAs D seen) (hs : seen.length ≤ 1000000) :
  Calls Try.prog 67 (#[.slice A0 l.length c0] ++ #[.pointer (some ⟨gb, 0, none⟩)]) w fun e w' => ∃ v : Value, e = .returned v ∧ Kd.R (Kd.int .i64) 3 w' w.heap.size (fun _ => True) v (ofOut seen l) ∧ (∃ D' : DataW Unit, w'.ownsMap Try.prog 3 (plainElem Try.prog 3) gm (n + l.length) D' ∧ MapAs D' (ofSeen seen l)) ∧ Below w0.heap.size w0 w' ∧ Kept w w' (fun k => k = gm) := by
 have hbl : gb < w.heap.size := World.block_lt_of_cell? w _ hbox
 have hgl : gm < w.heap.size := hown.lt
 have law := int_keyed Try.underlying3
 have hbn : gb ≠ gm := by
  rintro rfl
  obtain ⟨es, clock, hb, _⟩ := hown
  simp [World.cell?, hb] at hbox
 have HR := Aside0.mk hr
 have HC := Aside0.mk hc
 have HWF := Aside0.mk hwf
 have HL := Aside0.mk hl
 have HN := Aside0.mk hn
 have HS := Aside0.mk hs
 have HBN := Aside0.mk hbn
 have HBX := Aside0.mk hbox
 have HBL := Aside0.mk hbl
 have HGL := Aside0.mk hgl
 have HGM := Aside0.mk hgm
 have HB0 := Aside0.mk hB
 have HO0 := Aside0.mk hown
 have HD0 := Aside0.mk hD
 clear hr hc hwf hl hn hs hbn hbl hgl hgm hB hown hD
 go_enter Try.func67, Try.ntmps67
 go_wp2_with (first | ((with_reducible refine gate_dst (N := 9) rfl ?_); refine Kd.R_lit (Kd.int .i64) _ 3 ?hg (N := 9) ?hd (xs := ([] : List Int)) (inner := []) (ok := fun _ => True) (okp := fun _ => True) ?hr ?hp (fun _ hk => hk) trivial (Below.refl _ _) (Nat.le_refl _) (by simp) ?_; (case hd => rfl); (case hg => rfl); (case hr => first | (go_simp; done) | (go_simp; rfl)); (case hp => exact (Reps.none _ _)); intro v1 w3 ho4 hb hg_ hnew_; clear hg_ hnew_; have HV1 := Aside0.mk (show Kd.R (Kd.int .i64) 3 w3 w.heap.size (fun _ => True) v1 (ofOut seen (l.take 0)) from ho4); have HO1 := Aside0.mk (own_step HO0.out (hb.block gm HGL.out)); have HB1 := Aside0.mk (below_step HB0.out hb); have HK1 := Aside0.mk (Kept.of_below hb (fun k => k = gm)); clear ho4 hb))
 go_loopg [4, 12] l.length (fun gg v4 v12 wr => ∃ (i : Nat) (D' : DataW Unit), v12 = .int .i64 (i : Nat) ∧ i ≤ l.length ∧ l.length - i ≤ gg ∧ Aside0 (Kd.R (Kd.int .i64) 3 wr w.heap.size (fun _ => True) v4 (ofOut seen (l.take i))) ∧ Aside0 (wr.ownsMap Try.prog 3 (plainElem Try.prog 3) gm (n + i) D') ∧ Aside0 (MapAs D' (ofSeen seen (l.take i))) ∧ Aside0 (Below w0.heap.size w0 wr) ∧ Aside0 (Kept w wr (fun k => k = gm)))
 case atStart => exact ⟨0, D, rfl, Nat.zero_le _, Nat.le_refl _, HV1, HO1, HD0, HB1, HK1⟩
 case round =>
  obtain ⟨i, D', rfl, hi, hgg, HV, HO, HD, HB, HK⟩ := hrel
  by_cases hlt : i < l.length
  ·have hltz : (i : Int) < (l.length : Int) := by omega
   have p1 : (0 ≤ ((i : Nat) : Int)) = True := eq_true (by omega)
   have p2 : (((i : Nat) : Int) < (l.length : Int)) = True := eq_true hltz
   have hcr : Kd.C (Kd.int .i64) wr A0 l.length l := HR.out wr HK.out
   obtain ⟨ad, e1, hx⟩ := Kd.at_int hcr ((i : Nat) : Int) (by omega) hltz
   subst e1
   rw [Int.toNat_natCast] at hx
   have hbx : wr.cell? ⟨gb, 0, none⟩ = some (.map (some gm)) := cell_kept HBX.out HK.out HBN.out
   have HXW := Aside0.mk (show (Lit.int .i64 (rd l ((i : Nat) : Int))).wf = true from wfB_rd HWF.out (by omega) hltz)
   clear hcr
   by_cases hm : rd l ((i : Nat) : Int) ∈ ofSeen seen (l.take i)
   ·have HM := Aside0.mk hm
    have HH := Aside0.mk (show Go.Maps.has D' (.int .i64 (rd l ((i : Nat) : Int))) = true by rw [HD.out.has]; simp [hm])
    clear hm
    have HSE := Aside0.mk (show seeOne (ofSeen seen (l.take i)) (rd l ((i : Nat) : Int)) = ofSeen seen (l.take i) from if_pos HM.out)
    go_wp2_with (first | (at_lookup; refine wpList_lookup_own_ok_int _ rfl _ _ 58 rfl 3 3 .i64 law Try.underlying58 Try.underlying3 (impl_renumbered.zero _) gm _ D' rfl HO.out _ _ rfl (keyOf_int_mk Try.underlying3 HXW.out) ?_; intro c0_ hat0_ hwc0_; rw [HH.out]) | (at_lookup; refine wpList_lookup_own_int _ rfl _ _ 58 rfl 3 3 .i64 law Try.underlying58 Try.underlying3 (impl_renumbered.zero _) gm _ _ rfl HO.out _ _ rfl (keyOf_int_mk Try.underlying3 HXW.out) ?_; intro c1_ hat1_ hwc1_; rw [(HD.out.at_ _ HM.out)] at hat1_; (injection hat1_ with hat1_; injection hat1_ with _ hat1_; subst hat1_)) | (at_builtin; refine Kd.R_append (Kd.int .i64) (w0 := wr) w.heap.size rfl (.tmp 28) (.tmp 32) 22 3 (.int .i64 0) 8 rfl Try.underlying22 info3 rfl (by decide) (by omega) _ (ofOut seen (l.take i)) ((((ofSeen seen (l.take i)).idxOf (rd l ((i : Nat) : Int)) : Nat) : Int)) [.int .i64 (((ofSeen seen (l.take i)).idxOf (rd l ((i : Nat) : Int)) : Nat) : Int)] (fun _ => True) (fun _ => False) rfl rfl ?aP (fun _ hk => hk.elim) ?aF ?aO ?aB ?aS ?aL ?_; (case aP => exact rfl); (case aF => exact (fun _ _ => trivial)); (case aO => exact HV.out); (case aB => exact Below.refl _ _); (case aS => exact HK.out.1); (case aL => rw [ofOut_length, List.length_take]; have := HL.out; omega); intro v9 w9 ho hb hg hat; have HV9 := Aside0.mk ho; have HGR := Aside0.mk hg; have HAT := Aside0.mk hat; clear ho hb hg hat))
    go_roundg (l.length - (i + 1))
    case measure => omega
    case rel =>
     have hgm9 : w9.heap[gm]? = wr.heap[gm]? := HGR.out.block gm (Nat.lt_of_lt_of_le HGL.out HK.out.1) (fun e_ => by have h1 := Kd.R_base HV.out gm e_.symm; have h2 := HGL.out; omega)
     refine ⟨i + 1, D', congrArg (Value.int .i64) (show wrap64 (((i : Nat) : Int) + 1) = ((i + 1 : Nat) : Int) by have := HL.out; unfold wrap64; omega), by omega, Nat.le_refl _, ⟨?_⟩, ⟨own_step (HO.out.mono (by omega)) hgm9⟩, ⟨?_⟩, ⟨HB.out.grown HGR.out HB.out.size (fun k_ h_ => Nat.le_trans HB0.out.size (Kd.R_base HV.out k_ h_))⟩, ⟨Kept.of_grown HGR.out HK.out (fun k_ h_ => .inr (Kd.R_base HV.out k_ h_))⟩⟩
     ·rw [take_snoc l i hlt, ofOut_snoc, HSE.out]
      exact HV9.out
     ·rw [take_snoc l i hlt, ofSeen_snoc, HSE.out]
      exact HD.out
   ·have HM := Aside0.mk hm
    have HH := Aside0.mk (show Go.Maps.has D' (.int .i64 (rd l ((i : Nat) : Int))) = false by rw [HD.out.has]; simp [hm])
    clear hm
    have HD2 := Aside0.mk (HD.out.put HM.out)
    have HSE := Aside0.mk (show seeOne (ofSeen seen (l.take i)) (rd l ((i : Nat) : Int)) = ofSeen seen (l.take i) ++ [rd l ((i : Nat) : Int)] from if_neg HM.out)
    have HLW := Aside0.mk (show (Lit.int .i64 ((ofSeen seen (l.take i)).length : Nat)).wf = true from wf_small (by have h1 := ofSeen_length (l.take i) seen; have := HS.out; have := HL.out; rw [List.length_take] at h1; omega))
    have HIX := Aside0.mk (show (ofSeen seen (l.take i) ++ [rd l ((i : Nat) : Int)]).idxOf (rd l ((i : Nat) : Int)) = (ofSeen seen (l.take i)).length by rw [List.idxOf_append, if_neg HM.out]; simp)
    go_wp2_with (first | (at_lookup; refine wpList_lookup_own_ok_int _ rfl _ _ 58 rfl 3 3 .i64 law Try.underlying58 Try.underlying3 (impl_renumbered.zero _) gm _ D' rfl HO.out _ _ rfl (keyOf_int_mk Try.underlying3 HXW.out) ?_; intro c0_ hat0_ hwc0_; rw [HH.out]) | (at_len; refine wpList_len_own _ rfl _ 58 rfl 3 3 Try.underlying58 _ gm _ D' rfl HO.out ?_; rw [HD.out.size]) | (at_mapUpdate; refine wpList_mapUpdate_own _ rfl _ _ _ 58 rfl 3 3 law Try.underlying58 _ gm _ D' rfl HO.out (by have := HN.out; have := HL.out; unfold maxLen; omega) _ _ _ rfl rfl (keyOf_int_mk Try.underlying3 HXW.out) _ [] (plainElem_int Try.underlying3 HLW.out) ?_; intro w1 hown1 hgrow1; have hbx1 : w1.cell? ⟨gb, 0, none⟩ = some (.map (some gm)) := hgrow1.cell hbx (fun e_ => HBN.out (by injection e_)); have HO2 := Aside0.mk (hown1.mono (Nat.le_refl _)); have HG2 := Aside0.mk hgrow1; have HB2 := Aside0.mk (HB.out.grown hgrow1 HB.out.size (fun j hj => by cases hj; exact HGM.out)); have HK2 := Aside0.mk (Kept.of_grown hgrow1 HK.out (fun k_ h_ => .inl (by injection h_ with h_; exact h_.symm))); have HV2 := Aside0.mk (R_grownE HV.out hgrow1 (fun k_ hk_ e_ => by injection e_ with e_; have h1 := Kd.R_base HV.out k_ hk_; have h2 := HGL.out; omega)); clear hown1 hgrow1) | (at_lookup; refine wpList_lookup_own_int _ rfl _ _ 58 rfl 3 3 .i64 law Try.underlying58 Try.underlying3 (impl_renumbered.zero _) gm _ _ rfl HO2.out _ _ rfl (keyOf_int_mk Try.underlying3 HXW.out) ?_; intro c1_ hat1_ hwc1_; rw [(HD2.out.at_ _ (by simp))] at hat1_; (injection hat1_ with hat1_; injection hat1_ with _ hat1_; subst hat1_)) | (at_builtin; refine Kd.R_append (Kd.int .i64) (w0 := w1) w.heap.size rfl (.tmp 28) (.tmp 32) 22 3 (.int .i64 0) 8 rfl Try.underlying22 info3 rfl (by decide) (by omega) _ (ofOut seen (l.take i)) ((((ofSeen seen (l.take i) ++ [rd l ((i : Nat) : Int)]).idxOf (rd l ((i : Nat) : Int)) : Nat) : Int)) [.int .i64 (((ofSeen seen (l.take i) ++ [rd l ((i : Nat) : Int)]).idxOf (rd l ((i : Nat) : Int)) : Nat) : Int)] (fun _ => True) (fun _ => False) rfl rfl ?aP (fun _ hk => hk.elim) ?aF ?aO ?aB ?aS ?aL ?_; (case aP => exact rfl); (case aF => exact (fun _ _ => trivial)); (case aO => exact HV2.out); (case aB => exact Below.refl _ _); (case aS => exact HK2.out.1); (case aL => rw [ofOut_length, List.length_take]; have := HL.out; omega); intro v9 w9 ho hb hg hat; have HV9 := Aside0.mk ho; have HGR := Aside0.mk hg; have HAT := Aside0.mk hat; clear ho hb hg hat))
    go_roundg (l.length - (i + 1))
    case measure => omega
    case rel =>
     have hgm9 : w9.heap[gm]? = w1.heap[gm]? := HGR.out.block gm (Nat.lt_of_lt_of_le HGL.out HK2.out.1) (fun e_ => by have h1 := Kd.R_base HV2.out gm e_.symm; have h2 := HGL.out; omega)
     refine ⟨i + 1, _, congrArg (Value.int .i64) (show wrap64 (((i : Nat) : Int) + 1) = ((i + 1 : Nat) : Int) by have := HL.out; unfold wrap64; omega), by omega, Nat.le_refl _, ⟨?_⟩, ⟨own_step (HO2.out.mono (by omega)) hgm9⟩, ⟨?_⟩, ⟨HB2.out.grown HGR.out HB2.out.size (fun k_ h_ => Nat.le_trans HB0.out.size (Kd.R_base HV2.out k_ h_))⟩, ⟨Kept.of_grown HGR.out HK2.out (fun k_ h_ => .inr (Kd.R_base HV2.out k_ h_))⟩⟩
     ·rw [take_snoc l i hlt, ofOut_snoc, HSE.out]
      exact HV9.out
     ·rw [take_snoc l i hlt, ofSeen_snoc, HSE.out]
      exact HD2.out
  ·obtain rfl : i = l.length := by omega
   have hltz : ¬ ((l.length : Nat) : Int) < (l.length : Int) := by omega
   rw [List.take_length] at HV HD
   go_wp2
   go_ret
   exact ⟨_, rfl, HV.out, ⟨D', HO.out, HD.out⟩, HB.out, HK.out⟩

theorem four_new (w : World) (a b c d : Obj) : ((((w.alloc a).alloc b).alloc c).alloc d).heap.size = w.heap.size + 4 ∧ ((((w.alloc a).alloc b).alloc c).alloc d).heap[w.heap.size]? = some a ∧ ((((w.alloc a).alloc b).alloc c).alloc d).heap[w.heap.size + 1]? = some b ∧ ((((w.alloc a).alloc b).alloc c).alloc d).heap[w.heap.size + 2]? = some c ∧ ((((w.alloc a).alloc b).alloc c).alloc d).heap[w.heap.size + 3]? = some d := by
 have h : ∀ (w : World) (o : Obj), (w.alloc o).heap.size = w.heap.size + 1 := fun w o => by simp
 refine ⟨by rw [h, h, h, h], blk_alloc (blk_alloc (blk_alloc (blk_new w a) b) c) d, ?_, ?_, ?_⟩
 ·have h1 := blk_alloc (blk_alloc (blk_new (w.alloc a) b) c) d
  rwa [h] at h1
 ·have h1 := blk_alloc (blk_new ((w.alloc a).alloc b) c) d
  rwa [h, h] at h1
 ·have h1 := blk_new (((w.alloc a).alloc b).alloc c) d
  rwa [h, h, h] at h1
theorem ownsMap_new {P : Program} {k : TypeId} {R : Value → Option (DataW Unit × List MemPlace)} {b : Nat} {w : World} (h : w.heap[b]? = some (.map #[] 0)) : w.ownsMap P k R b 0 (.map []) := by
 obtain ⟨es, clock, h1, r⟩ := World.ownsMap_made (H := Unit) w P k R
 rw [(Go.MapKept.heap_alloc w _).1] at h1
 injection h1 with h1
 injection h1 with h1 h2
 subst h1
 subst h2
 exact ⟨_, _, h, r⟩
theorem R_keptE {e : TypeId} {w w1 : World} {base : Nat} {S : Nat → Prop} {v : Value} {xs : List Int} (h : (Kd.int .i64).R e w base (fun _ => True) v xs) (hk : Kept w w1 S) (hn : ∀ k, v.ownBlock = some k → ¬ S k) : (Kd.int .i64).R e w1 base (fun _ => True) v xs :=
 Kd.R_mono (Kd.R_step (Kd.R_tight rfl h) (fun k hk2 hlt => hk.2 k hlt (hn k hk2.symm))) (fun _ _ => trivial)
theorem goesVS_ {P : Program} {ops : Array Oper} {Q : Exit → Act → World → Prop} {oi : Oper} {N : Option Tmp} {a : Act} {w : World} {K : Act → World → Prop} {g : FuncId} {lb : Array Value} {s : Tmp} {as_ : Array Operand} {ts : Array TypeId} (hs : a.eval (.tmp s) = .func (.func g) #[] lb) (eg : ∀ args w, (callFunc g args).run P w = .ok (.enter g args) w) (args : Array Value)
  (hw : Region.wanted oi (yielded ops a.tmps) = true) (hN : oi.dst = N) (hop : oi.op = .call { callee := .value (.tmp s), args := as_, argTypes := ts }) (hargs : as_.map a.eval = args)
  (h : Calls P g (args ++ lb) w fun e w' => ∃ v, e = .returned v ∧ K (a.put N v) w') : if Region.wanted oi (yielded ops a.tmps) = true then Oper.wp P oi a w K Q else K (a.put N undef) w := by
 refine call_ g (args ++ lb) hw hN ?_ h
 unfold execOp
 simp [hop, resolve, Deferred.ofValue, invoke, hs, hargs, eg]
def impl_renumbered.f (l0_0 l0_1 : List Int) (a0_2 : Int) : Option (List Int × List Int × Int) := if wfB l0_0 = true ∧ wfB l0_1 = true ∧ l0_0.length ≤ 1000 ∧ l0_1.length ≤ 1000 then some (ofOut [] l0_0, ofOut (ofSeen [] l0_0) l0_1, a0_2) else none
theorem impl_renumbered.calls (A0_0 : Option Addr) (c0_0 : Nat) (l0_0 : List Int) (A0_1 : Option Addr) (c0_1 : Nat) (l0_1 : List Int) (a0_2 : Int) (r1 : List Int) (r2 : List Int) (r3 : Int) (w : World) (hr0_0 : Kd.C (Kd.int .i64) w A0_0 l0_0.length l0_0) (hc0_0 : l0_0.length ≤ c0_0) (hr0_1 : Kd.C (Kd.int .i64) w A0_1 l0_1.length l0_1) (hc0_1 : l0_1.length ≤ c0_1) (h : impl_renumbered.f l0_0 l0_1 a0_2 = some (r1, r2, r3)) :
  Calls Try.prog 43 #[.agg #[.slice A0_0 l0_0.length c0_0, .slice A0_1 l0_1.length c0_1, .int .i64 a0_2]] w fun e w' => ∃ v0_ v1_ : Value, e = .returned (.agg #[v0_, v1_, .int .i64 r3]) ∧ Kd.R (Kd.int .i64) 3 w' w.heap.size (fun k_ => some k_ ≠ (v1_ : Value).ownBlock) v0_ r1 ∧ Kd.R (Kd.int .i64) 3 w' w.heap.size (fun k_ => some k_ ≠ (v0_ : Value).ownBlock) v1_ r2 ∧ Below w.heap.size w w' := by
 have hu := Try.underlying27
 unfold impl_renumbered.f at h
 split at h
 ·rename_i hc
  obtain ⟨hw0, hw1, hl0, hl1⟩ := hc
  simp only [Option.some.injEq, Prod.mk.injEq] at h
  obtain ⟨rfl, rfl, rfl⟩ := h
  have HR0_0 := Aside0.mk hr0_0
  have HC0_0 := Aside0.mk hc0_0
  have HR0_1 := Aside0.mk hr0_1
  have HC0_1 := Aside0.mk hc0_1
  have HW0 := Aside0.mk hw0
  have HW1 := Aside0.mk hw1
  have HL0 := Aside0.mk hl0
  have HL1 := Aside0.mk hl1
  clear hr0_0 hc0_0 hr0_1 hc0_1 hw0 hw1 hl0 hl1
  have eg := fun args w => enters_ (P := Try.prog) Try.func67 (by kernel_rfl) rfl args w
  have hmm := @run_makeMap Try.prog
  go_enter Try.func43, Try.ntmps43
  go_upto_region 3 with (fail)
  (try simp only [Act.put, List.setIfInBounds_toArray, List.set_cons_zero, List.set_cons_succ])
  have hb0 : Below w.heap.size w ((((w.alloc (.cells #[.slice A0_0 l0_0.length c0_0, .slice A0_1 l0_1.length c0_1, .int .i64 a0_2] 27)).alloc (.cells #[.slice none 0 0, .slice none 0 0, .int .i64 0] 27)).alloc (.map #[] 0)).alloc (.cells #[.map (some (w.heap.size + 1 + 1))] 58)) := by repeat (first | exact Below.refl _ _ | apply bA)
  obtain ⟨hs0, ks, kr, km, kb⟩ := four_new w (.cells #[.slice A0_0 l0_0.length c0_0, .slice A0_1 l0_1.length c0_1, .int .i64 a0_2] 27) (.cells #[.slice none 0 0, .slice none 0 0, .int .i64 0] 27) (.map #[] 0) (.cells #[.map (some (w.heap.size + 1 + 1))] 58)
  rw [show w.heap.size + 1 + 1 = w.heap.size + 2 by omega] at hs0 ks kr km kb ⊢ hb0
  generalize ((((w.alloc (.cells #[.slice A0_0 l0_0.length c0_0, .slice A0_1 l0_1.length c0_1, .int .i64 a0_2] 27)).alloc (.cells #[.slice none 0 0, .slice none 0 0, .int .i64 0] 27)).alloc (.map #[] 0)).alloc (.cells #[.map (some (w.heap.size + 2))] 58)) = wb at hb0 hs0 ks kr km kb ⊢
  have KS := Aside0.mk (blk_drew ks)
  have KR := Aside0.mk (blk_drew kr)
  have KM := Aside0.mk (blk_drew km)
  have KB := Aside0.mk (blk_drew kb)
  have HB := Aside0.mk (below_drew1 hb0)
  have HSZ := Aside0.mk (show wb.drew.heap.size = w.heap.size + 4 from hs0)
  clear ks kr km kb hb0 hs0
  have EG := Aside0.mk eg
  clear eg
  refine start_ (n := 12) (S := fun w' => w'.cell? ⟨w.heap.size, 0, none⟩ = some (.slice A0_0 l0_0.length c0_0) ∧ w'.cell? ⟨w.heap.size, 1, none⟩ = some (.slice A0_1 l0_1.length c0_1) ∧ w'.cell? ⟨w.heap.size, 2, none⟩ = some (.int .i64 a0_2)) (ds := [11]) #[false, false, false, false, false, false, false, false, false, false, false, false] (by kernel_rfl) rfl rfl ⟨(blk_cell KS.out 0).trans rfl, (blk_cell KS.out 1).trans rfl, (blk_cell KS.out 2).trans rfl⟩ (fun hHeld => ?_)
  generalize wb.drew = wd at KS KR KM KB HB HSZ hHeld ⊢
  refine pure_ (i := 0) (N := some 7) (v := ?_) (a' := ?_) #[true, false, false, false, false, false, false, false, false, false, false, false] rfl rfl (by kernel_rfl) (fun _ _ _ h => h) (Or.inl ⟨by rfl, ?_⟩) ?_ ?_
  rotate_left
  ·intro w'
   go_simp
   with_reducible rfl
  rotate_left
  ·simp only [Act.put, List.setIfInBounds_toArray, List.set_cons_zero, List.set_cons_succ, i64_w, i32_w]
   rfl
  refine pure_ (i := 1) (N := some 8) (v := ?_) (a' := ?_) #[true, true, false, false, false, false, false, false, false, false, false, false] rfl rfl (by kernel_rfl) (fun _ _ _ h => h) (Or.inl ⟨by rfl, ?_⟩) ?_ ?_
  rotate_left
  ·intro w'
   go_simp
   with_reducible rfl
  rotate_left
  ·simp only [Act.put, List.setIfInBounds_toArray, List.set_cons_zero, List.set_cons_succ, i64_w, i32_w]
   rfl
  refine pure_ (i := 4) (N := some 11) (v := ?_) (a' := ?_) #[true, true, false, false, true, false, false, false, false, false, false, false] rfl rfl (by kernel_rfl) (fun _ _ _ h => h) (Or.inl ⟨by rfl, ?_⟩) ?_ ?_
  rotate_left
  ·intro w'
   go_simp
   with_reducible rfl
  rotate_left
  ·simp only [Act.put, List.setIfInBounds_toArray, List.set_cons_zero, List.set_cons_succ, i64_w, i32_w]
   rfl
  refine pure_ (i := 5) (N := some 12) (v := ?_) (a' := ?_) #[true, true, false, false, true, true, false, false, false, false, false, false] rfl rfl (by kernel_rfl) (fun _ _ _ h => h) (Or.inl ⟨by rfl, ?_⟩) ?_ ?_
  rotate_left
  ·intro w'
   go_simp
   with_reducible rfl
  rotate_left
  ·simp only [Act.put, List.setIfInBounds_toArray, List.set_cons_zero, List.set_cons_succ, i64_w, i32_w]
   rfl
  refine pure_ (i := 8) (N := some 15) (v := ?_) (a' := ?_) #[true, true, false, false, true, true, false, false, true, false, false, false] rfl rfl (by kernel_rfl) (fun _ _ _ h => h) (Or.inl ⟨by rfl, ?_⟩) ?_ ?_
  rotate_left
  ·intro w'
   go_simp
   with_reducible rfl
  rotate_left
  ·simp only [Act.put, List.setIfInBounds_toArray, List.set_cons_zero, List.set_cons_succ, i64_w, i32_w]
   rfl
  refine take_ (i := 2) (N := some 9) (v := ?_) (a' := ?_) #[true, true, true, false, true, true, false, false, true, false, false, false] rfl rfl (by kernel_rfl) (fun _ _ _ h => h) (Or.inl ⟨by rfl, ?_⟩) hHeld ?_ ?_
  rotate_left
  ·rintro w' ⟨s0, s1, s2⟩
   go_simp
   with_reducible rfl
  rotate_left
  ·simp only [Act.put, List.setIfInBounds_toArray, List.set_cons_zero, List.set_cons_succ, i64_w, i32_w]
   rfl
  refine take_ (i := 6) (N := some 13) (v := ?_) (a' := ?_) #[true, true, true, false, true, true, true, false, true, false, false, false] rfl rfl (by kernel_rfl) (fun _ _ _ h => h) (Or.inl ⟨by rfl, ?_⟩) hHeld ?_ ?_
  rotate_left
  ·rintro w' ⟨s0, s1, s2⟩
   go_simp
   with_reducible rfl
  rotate_left
  ·simp only [Act.put, List.setIfInBounds_toArray, List.set_cons_zero, List.set_cons_succ, i64_w, i32_w]
   rfl
  refine take_ (i := 9) (N := some 16) (v := ?_) (a' := ?_) #[true, true, true, false, true, true, true, false, true, true, false, false] rfl rfl (by kernel_rfl) (fun _ _ _ h => h) (Or.inl ⟨by rfl, ?_⟩) hHeld ?_ ?_
  rotate_left
  ·rintro w' ⟨s0, s1, s2⟩
   go_simp
   with_reducible rfl
  rotate_left
  ·simp only [Act.put, List.setIfInBounds_toArray, List.set_cons_zero, List.set_cons_succ, i64_w, i32_w]
   rfl
  refine one_ (i := 3) (N := some 10) #[true, true, true, true, true, true, true, false, true, true, false, false] rfl rfl (by kernel_rfl) (by decide) (fun K hK => ?_)
  refine goesVS_ (s := 7) (g := 67) (lb := #[.pointer (some ⟨w.heap.size + 3, 0, none⟩)]) (by rfl) EG.out #[.slice A0_0 l0_0.length c0_0] (by rfl) rfl rfl (by (try simp only [List.map_toArray, List.map_cons, List.map_nil]); first | done | rfl) ?_
  refine (impl_renumbered.clo A0_0 c0_0 l0_0 (w.heap.size + 3) (w.heap.size + 2) 0 [] (.map []) w wd HB.out (by omega) (Kd.C_kept_came (Kd.heap_int _) HR0_0.out HB.out (fun k_ h_ => by omega)) HC0_0.out HW0.out (by have := HL0.out; omega) (by omega) ((blk_cell KB.out 0).trans rfl) (ownsMap_new KM.out) MapAs.start (by simp)).mono ?_
  rintro e w5 ⟨v1, rfl, ho, ⟨D1, hown, hD⟩, hb, hk⟩
  refine ⟨_, rfl, ?_⟩
  have HO1 := Aside0.mk ho
  have HM1 := Aside0.mk hown
  have HD1 := Aside0.mk hD
  have HK5 := Aside0.mk hk
  have n0_ := Aside0.mk (blk_kept KS.out hk (by omega))
  have n1_ := Aside0.mk (blk_kept KR.out hk (by omega))
  have n3_ := Aside0.mk (blk_kept KB.out hk (by omega))
  have n4_ := Aside0.mk hb
  clear KS KR KB HB KM ho hown hD hk hb
  have KS := n0_
  have KR := n1_
  have KB := n3_
  have HB := n4_
  clear n0_ n1_ n3_ n4_
  refine hK.out _ _ ⟨(blk_cell KS.out 0).trans rfl, (blk_cell KS.out 1).trans rfl, (blk_cell KS.out 2).trans rfl⟩ (fun hHeld => ?_)
  clear hK K
  refine norm_ (a' := ?_) ?_ ?_
  rotate_left
  ·show Act.put _ (some 10) _ = _
   simp only [Act.put, List.setIfInBounds_toArray, List.set_cons_zero, List.set_cons_succ, i64_w, i32_w]
   rfl
  refine one_ (i := 7) (N := some 14) #[true, true, true, true, true, true, true, true, true, true, false, false] rfl rfl (by kernel_rfl) (by decide) (fun K hK => ?_)
  refine goesVS_ (s := 11) (g := 67) (lb := #[.pointer (some ⟨w.heap.size + 3, 0, none⟩)]) (by rfl) EG.out #[.slice A0_1 l0_1.length c0_1] (by rfl) rfl rfl (by (try simp only [List.map_toArray, List.map_cons, List.map_nil]); first | done | rfl) ?_
  refine (impl_renumbered.clo A0_1 c0_1 l0_1 (w.heap.size + 3) (w.heap.size + 2) (0 + l0_0.length) (ofSeen [] l0_0) D1 w w5 HB.out (by omega) (Kd.C_kept_came (Kd.heap_int _) HR0_1.out HB.out (fun k_ h_ => by omega)) HC0_1.out HW1.out (by have := HL1.out; omega) (by have := HL0.out; omega) ((blk_cell KB.out 0).trans rfl) HM1.out HD1.out (by have h1 := ofSeen_length l0_0 []; have := HL0.out; simp only [List.length_nil] at h1; omega)).mono ?_
  rintro e w6 ⟨v2, rfl, ho, _, hb, hk⟩
  refine ⟨_, rfl, ?_⟩
  have HO2 := Aside0.mk ho
  have HLT1 := Aside0.mk (Kd.R_lt HO1.out)
  have n0_ := Aside0.mk (blk_kept KS.out hk (by omega))
  have n1_ := Aside0.mk (blk_kept KR.out hk (by omega))
  have n4_ := Aside0.mk hb
  have n5_ := Aside0.mk (R_keptE HO1.out hk (fun k_ h_ e_ => by have h1 := Kd.R_base HO1.out k_ h_; have h2 := HSZ.out; omega))
  clear KS KR KB HB HM1 HD1 HO1 ho hk hb
  have KS := n0_
  have KR := n1_
  have HB := n4_
  have HO1 := n5_
  clear n0_ n1_ n4_ n5_
  obtain ⟨E0, d0, e0⟩ := Kd.R_slice HO1.out
  subst e0
  obtain ⟨E1, d1, e1⟩ := Kd.R_slice HO2.out
  subst e1
  refine hK.out _ _ ⟨(blk_cell KS.out 0).trans rfl, (blk_cell KS.out 1).trans rfl, (blk_cell KS.out 2).trans rfl⟩ (fun hHeld => ?_)
  clear hK K
  refine norm_ (a' := ?_) ?_ ?_
  rotate_left
  ·show Act.put _ (some 14) _ = _
   simp only [Act.put, List.setIfInBounds_toArray, List.set_cons_zero, List.set_cons_succ, i64_w, i32_w]
   rfl
  refine pure_ (i := 10) (N := some 17) (v := ?_) (a' := ?_) #[true, true, true, true, true, true, true, true, true, true, true, false] rfl rfl (by kernel_rfl) (fun _ _ _ h => h) (Or.inl ⟨by rfl, ?_⟩) ?_ ?_
  rotate_left
  ·intro w'
   go_simp
   with_reducible rfl
  rotate_left
  ·simp only [Act.put, List.setIfInBounds_toArray, List.set_cons_zero, List.set_cons_succ, i64_w, i32_w]
   rfl
  refine last_ (i := 11) (N := none) #[true, true, true, true, true, true, true, true, true, true, true, true] rfl rfl (by kernel_rfl) (by decide) (fun K hK => ?_)
  have hz0 : w6.cell? ⟨w.heap.size + 1, 0, none⟩ = some (.slice none 0 0) := (blk_cell KR.out 0).trans rfl
  have hf0 := blk_frozen KR.out 0
  have hz1 : w6.cell? ⟨w.heap.size + 1, 1, none⟩ = some (.slice none 0 0) := (blk_cell KR.out 1).trans rfl
  have hf1 := blk_frozen KR.out 1
  have hz2 : w6.cell? ⟨w.heap.size + 1, 2, none⟩ = some (.int .i64 0) := (blk_cell KR.out 2).trans rfl
  have hf2 := blk_frozen KR.out 2
  refine skip_ (w1 := ?_) (by rfl) rfl ?_ ?_
  rotate_left
  ·go_simp
   rfl
  refine hK.out _ _ ?_
  clear hK K
  refine done_ (by kernel_rfl) ?_
  try go_wp2
  refine bodyPost_ret (results_cell_row rfl _ _ (w.heap.size + 1) 27 #[(.slice E0 (ofOut [] l0_0).length d0), (.slice E1 (ofOut (ofSeen [] l0_0) l0_1).length d1), .int .i64 a0_2] (0, 0) _ rfl (by refine blk_put (cs := #[(.slice E0 (ofOut [] l0_0).length d0), (.slice E1 (ofOut (ofSeen [] l0_0) l0_1).length d1), .int .i64 0]) ?_ 2 _ rfl; refine blk_put (cs := #[(.slice E0 (ofOut [] l0_0).length d0), .slice none 0 0, .int .i64 0]) ?_ 1 _ rfl; refine blk_put (cs := #[.slice none 0 0, .slice none 0 0, .int .i64 0]) ?_ 0 _ rfl; exact KR.out) Try.underlying27 rfl (by kernel_rfl)) rfl ?_
  have hsz5 : w.heap.size ≤ wd.heap.size := by have := HSZ.out; omega
  exact ⟨_, _, rfl, Kd.R_mono (Kd.R_tight rfl (Kd.R_far (p := ⟨w.heap.size + 1, 2, none⟩) (Kd.R_far (p := ⟨w.heap.size + 1, 1, none⟩) (Kd.R_far (p := ⟨w.heap.size + 1, 0, none⟩) (Kd.R_types (Kd.R_lower HO1.out hsz5) KR.out (by decide)) (fun _ hk => hk.2) _) (fun _ hk => hk.2) _) (fun _ hk => hk.2) _)) (fun k_ hk_ e_ => by have h1 := HLT1.out k_ hk_.symm; have h2 := Kd.R_base HO2.out k_ e_.symm; omega), Kd.R_mono (Kd.R_tight rfl (Kd.R_far (p := ⟨w.heap.size + 1, 2, none⟩) (Kd.R_far (p := ⟨w.heap.size + 1, 1, none⟩) (Kd.R_far (p := ⟨w.heap.size + 1, 0, none⟩) (Kd.R_types (Kd.R_lower HO2.out (Nat.le_trans hsz5 HK5.out.1)) KR.out (by decide)) (fun _ hk => hk.2) _) (fun _ hk => hk.2) _) (fun _ hk => hk.2) _)) (fun k_ hk_ e_ => by have h1 := HLT1.out k_ e_.symm; have h2 := Kd.R_base HO2.out k_ hk_.symm; omega), by repeat (with_reducible first | exact HB.out | refine below_set ?_ (Nat.le_succ _))⟩
 ·cases h

/-! ### slices_Equal_int_int: function 68 -/
def slices_Equal_int_int.l0 : Nat → List Int → List Int → Int → Int → Option (Bool)
 | 0, _, _, _, _ => none
 | k + 1, x0, x1, x12, x13 => if x13 < x12 then (if 0 ≤ x13 then (if x13 < (x0.length : Int) then (if x13 < (x1.length : Int) then (if (rd x0 x13) = (rd x1 x13) then (slices_Equal_int_int.l0 k x0 x1 x12 (wrap64 (x13 + 1))) else (some false)) else (none)) else (none)) else (none)) else (some true)
def slices_Equal_int_int.f (k : Nat) (l0 : List Int) (l1 : List Int) : Option (Bool) := if (l0.length : Int) = (l1.length : Int) then (slices_Equal_int_int.l0 k l0 l1 (l0.length : Int) 0) else (some false)
theorem slices_Equal_int_int.mono_l : ∀ k, (∀ y0 y1 y2 y3, LeO (slices_Equal_int_int.l0 k y0 y1 y2 y3) (slices_Equal_int_int.l0 (k + 1) y0 y1 y2 y3))
 | 0 => fun _ _ _ _ r h => by simp [slices_Equal_int_int.l0] at h
 | k + 1 => by
  have ih0 := slices_Equal_int_int.mono_l k
  ·intro y0 y1 y2 y3
   unfold slices_Equal_int_int.l0
   repeat' first
   | (with_reducible exact ih0 _ _ _ _)
   | (with_reducible exact LeO.refl _)
   | (with_reducible exact LeO.none _)
   | (with_reducible refine LeO.ite ?_ ?_)
   | (with_reducible refine LeO.bind ?_ (fun _ => ?_))
   | exact LeO.none _
   | refine LeO.ite ?_ ?_
   | refine LeO.bind ?_ (fun _ => ?_)
theorem slices_Equal_int_int.mono : ∀ a0 a1 k, LeO (slices_Equal_int_int.f k a0 a1) (slices_Equal_int_int.f (k + 1) a0 a1) := by
 intro a0 a1 k
 have ih0 := slices_Equal_int_int.mono_l k
 unfold slices_Equal_int_int.f
 repeat' first
   | (with_reducible exact ih0 _ _ _ _)
   | (with_reducible exact LeO.refl _)
   | (with_reducible exact LeO.none _)
   | (with_reducible refine LeO.ite ?_ ?_)
   | (with_reducible refine LeO.bind ?_ (fun _ => ?_))
   | exact LeO.none _
   | refine LeO.ite ?_ ?_
   | refine LeO.bind ?_ (fun _ => ?_)
theorem slices_Equal_int_int.calls (k : Nat) (A0 : Option Addr) (c0 : Nat) (l0 : List Int) (A1 : Option Addr) (c1 : Nat) (l1 : List Int) (r : Bool) (w : World) (hr0 : Kd.C (Kd.int .i64) w A0 l0.length l0) (hc0 : l0.length ≤ c0) (hr1 : Kd.C (Kd.int .i64) w A1 l1.length l1) (hc1 : l1.length ≤ c1) (h : slices_Equal_int_int.f k l0 l1 = some r) :
  Calls Try.prog 68 #[.slice A0 l0.length c0, .slice A1 l1.length c1] w fun e w' => e = .returned (.bool r) ∧ Drawn0 w w' := by
 have HR0 := Aside0.mk hr0
 have HC0 := Aside0.mk hc0
 clear hr0 hc0
 have HR1 := Aside0.mk hr1
 have HC1 := Aside0.mk hc1
 clear hr1 hc1
 have H : (if (l0.length : Int) = (l1.length : Int) then (slices_Equal_int_int.l0 k l0 l1 (l0.length : Int) 0) else (some false)) = some r := h
 clear h
 by_cases c3 : (l0.length : Int) = (l1.length : Int)
 ·rw [if_pos c3] at H
  have c3b0 : ((l0.length : Int) == (l1.length : Int)) = true := beq_iff_eq.mpr c3
  have c3b1 : ((l0.length : Int) != (l1.length : Int)) = false := bne_eq_false_iff_eq.mpr c3
  have c3b2 : (l0.length == l1.length) = true := by first | simpa using c3 | (simp at c3 ⊢; omega)
  clear c3
  have H' := Aside0.mk H
  clear H
  go_enter Try.func68, Try.ntmps68
  go_wp2
  repeat (go_quiet (fail); try go_wp2)
  go_loopg [13] k (fun kq v13 w' => ∃ (x13_1 : Int), v13 = .int .i64 x13_1 ∧ Aside0 (slices_Equal_int_int.l0 kq l0 l1 (l0.length : Int) x13_1 = some r) ∧ Aside0 (kq ≤ k) ∧ Drawn0 w w')
  case atStart => exact ⟨(0), (by first | rfl | (simp; done) | (simp [*]; done)), H', ⟨Nat.le_refl _⟩, by repeat (first | exact Drawn0.refl _ | apply Drawn0.step)⟩
  case round =>
   clear H'
   try clear p2
   obtain ⟨x13_1, rfl, HA, HK1, ⟨m1, rfl⟩⟩ := hrel
   cases gk with
   | zero => exact absurd HA.out (by simp [slices_Equal_int_int.l0])
   | succ k1 =>
    have H := HA.out
    clear HA
    simp only [slices_Equal_int_int.l0] at H
    by_cases c4 : x13_1 < (l0.length : Int)
    ·rw [if_pos c4] at H
     have c4b0 : decide (x13_1 < (l0.length : Int)) = true := decide_eq_true c4
     clear c4
     by_cases c5 : 0 ≤ x13_1
     ·rw [if_pos c5] at H
      have c5b0 : decide (0 ≤ x13_1) = true := decide_eq_true c5
      clear c5
      by_cases c6 : x13_1 < (l0.length : Int)
      ·rw [if_pos c6] at H
       have c6b0 : decide (x13_1 < (l0.length : Int)) = true := decide_eq_true c6
       clear c6
       by_cases c7 : x13_1 < (l1.length : Int)
       ·rw [if_pos c7] at H
        have c7b0 : decide (x13_1 < (l1.length : Int)) = true := decide_eq_true c7
        clear c7
        by_cases c8 : (rd l0 x13_1) = (rd l1 x13_1)
        ·rw [if_pos c8] at H
         have c8b0 : ((rd l0 x13_1) == (rd l1 x13_1)) = true := beq_iff_eq.mpr c8
         have c8b1 : ((rd l0 x13_1) != (rd l1 x13_1)) = false := bne_eq_false_iff_eq.mpr c8
         clear c8
         have H' := Aside0.mk H
         clear H
         have p299 : 0 ≤ (x13_1 : Int) := of_decide_eq_true (by assumption)
         have q299 : x13_1 < (l0.length : Int) := of_decide_eq_true (by assumption)
         obtain ⟨ad299, e299, hx299_0⟩ := Kd.at_int HR0.out x13_1 p299 q299
         cases e299
         replace p299 := eq_true p299
         replace q299 := eq_true q299
         have p300 : 0 ≤ (x13_1 : Int) := of_decide_eq_true (by assumption)
         have q300 : x13_1 < (l1.length : Int) := of_decide_eq_true (by assumption)
         obtain ⟨ad300, e300, hx300_0⟩ := Kd.at_int HR1.out x13_1 p300 q300
         cases e300
         replace p300 := eq_true p300
         replace q300 := eq_true q300
         go_wp2
         repeat (go_quiet (fail); try go_wp2)
         go_roundg k1
         case measure => have := HK1.out; omega
         case rel => exact ⟨(wrap64 (x13_1 + 1)), (by first | rfl | (simp; done) | (simp [*]; done)), H', ⟨by have := HK1.out; omega⟩, by repeat (first | exact Drawn0.refl _ | apply Drawn0.step)⟩
        ·rw [if_neg c8] at H
         have c8b0 : ((rd l0 x13_1) == (rd l1 x13_1)) = false := beq_eq_false_iff_ne.mpr c8
         have c8b1 : ((rd l0 x13_1) != (rd l1 x13_1)) = true := bne_iff_ne.mpr c8
         obtain rfl := Option.some.inj H
         have p299 : 0 ≤ (x13_1 : Int) := of_decide_eq_true (by assumption)
         have q299 : x13_1 < (l0.length : Int) := of_decide_eq_true (by assumption)
         obtain ⟨ad299, e299, hx299_0⟩ := Kd.at_int HR0.out x13_1 p299 q299
         cases e299
         replace p299 := eq_true p299
         replace q299 := eq_true q299
         have p300 : 0 ≤ (x13_1 : Int) := of_decide_eq_true (by assumption)
         have q300 : x13_1 < (l1.length : Int) := of_decide_eq_true (by assumption)
         obtain ⟨ad300, e300, hx300_0⟩ := Kd.at_int HR1.out x13_1 p300 q300
         cases e300
         replace p300 := eq_true p300
         replace q300 := eq_true q300
         go_wp2
         repeat (go_quiet (fail); try go_wp2)
         go_ret
         exact ⟨by first | rfl | (simp; done) | (simp [*]; done), by repeat (first | exact Drawn0.refl _ | apply Drawn0.step)⟩
       ·rw [if_neg c7] at H
        exact absurd H (by simp)
      ·rw [if_neg c6] at H
       exact absurd H (by simp)
     ·rw [if_neg c5] at H
      exact absurd H (by simp)
    ·rw [if_neg c4] at H
     have c4b0 : decide (x13_1 < (l0.length : Int)) = false := decide_eq_false c4
     clear c4
     obtain rfl := Option.some.inj H
     go_wp2
     repeat (go_quiet (fail); try go_wp2)
     go_ret
     exact ⟨by first | rfl | (simp; done) | (simp [*]; done), by repeat (first | exact Drawn0.refl _ | apply Drawn0.step)⟩
 ·rw [if_neg c3] at H
  have c3b0 : ((l0.length : Int) == (l1.length : Int)) = false := beq_eq_false_iff_ne.mpr c3
  have c3b1 : ((l0.length : Int) != (l1.length : Int)) = true := bne_iff_ne.mpr c3
  have c3b2 : (l0.length == l1.length) = false := by first | simpa using c3 | (simp at c3 ⊢; omega)
  obtain rfl := Option.some.inj H
  go_enter Try.func68, Try.ntmps68
  go_wp2
  repeat (go_quiet (fail); try go_wp2)
  go_ret
  exact ⟨by first | rfl | (simp; done) | (simp [*]; done), by repeat (first | exact Drawn0.refl _ | apply Drawn0.step)⟩

/-! ### impl_State_same: function 44 -/
def impl_State_same.f (k : Nat) (l0_0 : List Int) (l0_1 : List Int) (a0_2 : Int) (l1_0 : List Int) (l1_1 : List Int) (a1_2 : Int) : Option (Bool) := (slices_Equal_int_int.f k l0_0 l1_0).bind fun t303 => (if t303 = true then ((slices_Equal_int_int.f k l0_1 l1_1).bind fun t304 => (if t304 = true then (some (a0_2 == a1_2)) else (some false))) else (some false))
theorem impl_State_same.mono : ∀ a0 a1 a2 a3 a4 a5 k, LeO (impl_State_same.f k a0 a1 a2 a3 a4 a5) (impl_State_same.f (k + 1) a0 a1 a2 a3 a4 a5) := by
 intro a0 a1 a2 a3 a4 a5 k
 unfold impl_State_same.f
 repeat' first
   | (with_reducible exact slices_Equal_int_int.mono _ _ _)
   | (with_reducible exact LeO.refl _)
   | (with_reducible exact LeO.none _)
   | (with_reducible refine LeO.ite ?_ ?_)
   | (with_reducible refine LeO.bind ?_ (fun _ => ?_))
   | exact LeO.none _
   | refine LeO.ite ?_ ?_
   | refine LeO.bind ?_ (fun _ => ?_)
theorem impl_State_same.calls (k : Nat) (A0_0 : Option Addr) (c0_0 : Nat) (l0_0 : List Int) (A0_1 : Option Addr) (c0_1 : Nat) (l0_1 : List Int) (a0_2 : Int) (A1_0 : Option Addr) (c1_0 : Nat) (l1_0 : List Int) (A1_1 : Option Addr) (c1_1 : Nat) (l1_1 : List Int) (a1_2 : Int) (r : Bool) (w : World) (hr0_0 : Kd.C (Kd.int .i64) w A0_0 l0_0.length l0_0) (hc0_0 : l0_0.length ≤ c0_0) (hr0_1 : Kd.C (Kd.int .i64) w A0_1 l0_1.length l0_1) (hc0_1 : l0_1.length ≤ c0_1) (hr1_0 : Kd.C (Kd.int .i64) w A1_0 l1_0.length l1_0) (hc1_0 : l1_0.length ≤ c1_0) (hr1_1 : Kd.C (Kd.int .i64) w A1_1 l1_1.length l1_1) (hc1_1 : l1_1.length ≤ c1_1) (h : impl_State_same.f k l0_0 l0_1 a0_2 l1_0 l1_1 a1_2 = some r) :
  Calls Try.prog 44 #[.agg #[.slice A0_0 l0_0.length c0_0, .slice A0_1 l0_1.length c0_1, .int .i64 a0_2], .agg #[.slice A1_0 l1_0.length c1_0, .slice A1_1 l1_1.length c1_1, .int .i64 a1_2]] w fun e w' => e = .returned (.bool r) ∧ Below w.heap.size w w' := by
 have hu27 := Try.underlying27
 have HR0_0 := Aside0.mk hr0_0
 have HC0_0 := Aside0.mk hc0_0
 clear hr0_0 hc0_0
 have HR0_1 := Aside0.mk hr0_1
 have HC0_1 := Aside0.mk hc0_1
 clear hr0_1 hc0_1
 have HR1_0 := Aside0.mk hr1_0
 have HC1_0 := Aside0.mk hc1_0
 clear hr1_0 hc1_0
 have HR1_1 := Aside0.mk hr1_1
 have HC1_1 := Aside0.mk hc1_1
 clear hr1_1 hc1_1
 have HB := Aside0.mk (Below.refl w.heap.size w)
 have H : ((slices_Equal_int_int.f k l0_0 l1_0).bind fun t303 => (if t303 = true then ((slices_Equal_int_int.f k l0_1 l1_1).bind fun t304 => (if t304 = true then (some (a0_2 == a1_2)) else (some false))) else (some false))) = some r := h
 clear h
 replace H := Option.bind_eq_some_iff.mp H
 obtain ⟨t303, A30, H⟩ := H
 replace H : (if t303 = true then ((slices_Equal_int_int.f k l0_1 l1_1).bind fun t304 => (if t304 = true then (some (a0_2 == a1_2)) else (some false))) else (some false)) = some r := H
 have A3 := Aside0.mk A30
 clear A30
 by_cases c4 : t303 = true
 ·subst c4
  have H1 : ((slices_Equal_int_int.f k l0_1 l1_1).bind fun t304 => (if t304 = true then (some (a0_2 == a1_2)) else (some false))) = some r := by rw [if_pos rfl] at H; exact H
  clear H
  have H := H1
  clear H1
  replace H := Option.bind_eq_some_iff.mp H
  obtain ⟨t304, A50, H⟩ := H
  replace H : (if t304 = true then (some (a0_2 == a1_2)) else (some false)) = some r := H
  have A5 := Aside0.mk A50
  clear A50
  by_cases c6 : t304 = true
  ·subst c6
   have H1 : (some (a0_2 == a1_2)) = some r := by rw [if_pos rfl] at H; exact H
   clear H
   have H := H1
   clear H1
   obtain rfl := Option.some.inj H
   go_enter Try.func44, Try.ntmps44
   go_wp2_with (first | ((with_reducible refine gate_dst (N := 2) rfl ?_); refine box_event ?hg (N := 2) ?hd (cs := #[.slice A0_0 l0_0.length c0_0, .slice A0_1 l0_1.length c0_1, .int .i64 a0_2]) (t := 27) ?hr ?_; (case hd => rfl); (case hg => rfl); (case hr => first | (go_simp; done) | (go_simp; rfl)); intro gb301 hg w7 hbox hb; have BK301 := Aside0.mk (hbox); have GW301 := Aside0.mk ((by rw [hg]; exact (below_size (by repeat (with_reducible first | exact HB.out | apply bA | apply bN | apply bD))) : w.heap.size ≤ gb301)); have GE301 := Aside0.mk ((by rw [hg]; exact (below_size (by repeat (with_reducible first | exact HB.out | apply bA | apply bN | apply bD))) : w.heap.size ≤ gb301)); replace HB := Aside0.mk (below_step (by repeat (with_reducible first | exact HB.out | apply bA | apply bN | apply bD)) hb); clear hb hbox hg) | ((with_reducible refine gate_dst (N := 3) rfl ?_); refine box_event ?hg (N := 3) ?hd (cs := #[.slice A1_0 l1_0.length c1_0, .slice A1_1 l1_1.length c1_1, .int .i64 a1_2]) (t := 27) ?hr ?_; (case hd => rfl); (case hg => rfl); (case hr => first | (go_simp; done) | (go_simp; rfl)); intro gb302 hg w8 hbox hb; have BK302 := Aside0.mk (hbox); have GW302 := Aside0.mk ((by rw [hg]; exact (below_size (by repeat (with_reducible first | exact HB.out | apply bA | apply bN | apply bD | refine below_set ?_ GE301.out))) : w.heap.size ≤ gb302)); have GE302 := Aside0.mk ((by rw [hg]; exact (below_size (by repeat (with_reducible first | exact HB.out | apply bA | apply bN | apply bD | refine below_set ?_ GE301.out))) : w.heap.size ≤ gb302)); replace HB := Aside0.mk (below_step (by repeat (with_reducible first | exact HB.out | apply bA | apply bN | apply bD | refine below_set ?_ GE301.out)) hb); have NB301_302 := Aside0.mk ((by rw [hg]; exact Nat.ne_of_lt (blk_lt (g := gb301) (o := .cells #[.slice A0_0 l0_0.length c0_0, .slice A0_1 l0_1.length c0_1, .int .i64 a0_2] 27 (0, 0)) (by (with_reducible repeat (first | refine blk_drewN ?_ _ | refine blk_drew ?_ | refine blk_alloc ?_ _)); exact BK301.out)) : gb301 ≠ gb302)); have NB302_301 := Aside0.mk ((by rw [hg]; exact Nat.ne_of_gt (blk_lt (g := gb301) (o := .cells #[.slice A0_0 l0_0.length c0_0, .slice A0_1 l0_1.length c0_1, .int .i64 a0_2] 27 (0, 0)) (by (with_reducible repeat (first | refine blk_drewN ?_ _ | refine blk_drew ?_ | refine blk_alloc ?_ _)); exact BK301.out)) : gb302 ≠ gb301)); replace BK301 := Aside0.mk (blk_below (g := gb301) (o := .cells #[.slice A0_0 l0_0.length c0_0, .slice A0_1 l0_1.length c0_1, .int .i64 a0_2] 27 (0, 0)) (by (with_reducible repeat (first | refine blk_drewN ?_ _ | refine blk_drew ?_ | refine blk_alloc ?_ _)); exact BK301.out) hb); clear hb hbox hg; have hnb9 := NB301_302.out; have hnc9 := NB302_301.out; have hcz10_0 : w8.cell? ⟨gb301, 0, none⟩ = some (.slice A0_0 l0_0.length c0_0) := (blk_cell BK301.out 0).trans rfl; have hcz10_1 : w8.cell? ⟨gb301, 1, none⟩ = some (.slice A0_1 l0_1.length c0_1) := (blk_cell BK301.out 1).trans rfl; have hcz10_2 : w8.cell? ⟨gb301, 2, none⟩ = some (.int .i64 a0_2) := (blk_cell BK301.out 2).trans rfl; have hfz10_0 := blk_frozen BK301.out 0; have hfz10_1 := blk_frozen BK301.out 1; have hfz10_2 := blk_frozen BK301.out 2; have hcz11_0 : w8.cell? ⟨gb302, 0, none⟩ = some (.slice A1_0 l1_0.length c1_0) := (blk_cell BK302.out 0).trans rfl; have hcz11_1 : w8.cell? ⟨gb302, 1, none⟩ = some (.slice A1_1 l1_1.length c1_1) := (blk_cell BK302.out 1).trans rfl; have hcz11_2 : w8.cell? ⟨gb302, 2, none⟩ = some (.int .i64 a1_2) := (blk_cell BK302.out 2).trans rfl; have hfz11_0 := blk_frozen BK302.out 0; have hfz11_1 := blk_frozen BK302.out 1; have hfz11_2 := blk_frozen BK302.out 2) | ((with_reducible refine gate_callee (f := 68) rfl ?_); refine goesL_ (some 9) rfl rfl Try.func68 (by kernel_rfl) rfl #[.slice A0_0 l0_0.length c0_0, .slice A1_0 l1_0.length c1_0] rfl (by (try simp only [List.map_toArray, List.map_cons, List.map_nil]); first | done | rfl) ?_; (with_reducible refine (slices_Equal_int_int.calls k _ _ l0_0 _ _ l1_0 true _ ?side1 ?side2 ?side3 ?side4 A3.out).mono ?_); (case side1 => repeat (first | exact (Kd.C_below HR0_0.out HB.out) | (with_reducible refine Kd.C_alloc ?_ _) | (with_reducible refine Kd.C_drewN ?_ _) | (with_reducible refine Kd.C_drew ?_))); (case side2 => exact HC0_0.out); (case side3 => repeat (first | exact (Kd.C_below HR1_0.out HB.out) | (with_reducible refine Kd.C_alloc ?_ _) | (with_reducible refine Kd.C_drewN ?_ _) | (with_reducible refine Kd.C_drew ?_))); (case side4 => exact HC1_0.out); rintro e w' ⟨rfl, ⟨nd, rfl⟩⟩; refine ⟨_, rfl, ?_⟩) | (go_at_call 68; (with_reducible refine (slices_Equal_int_int.calls k _ _ l0_1 _ _ l1_1 true _ ?side1 ?side2 ?side3 ?side4 A5.out).mono ?_); (case side1 => repeat (first | exact (Kd.C_below HR0_1.out (by repeat (with_reducible first | exact HB.out | apply bA | apply bN | apply bD | refine below_set ?_ GE301.out | refine below_set ?_ GE302.out))) | (with_reducible refine Kd.C_alloc ?_ _) | (with_reducible refine Kd.C_drewN ?_ _) | (with_reducible refine Kd.C_drew ?_))); (case side2 => exact HC0_1.out); (case side3 => repeat (first | exact (Kd.C_below HR1_1.out (by repeat (with_reducible first | exact HB.out | apply bA | apply bN | apply bD | refine below_set ?_ GE301.out | refine below_set ?_ GE302.out))) | (with_reducible refine Kd.C_alloc ?_ _) | (with_reducible refine Kd.C_drewN ?_ _) | (with_reducible refine Kd.C_drew ?_))); (case side4 => exact HC1_1.out); rintro e w' ⟨rfl, ⟨nd, rfl⟩⟩))
   go_ret
   exact ⟨by first | rfl | (simp [*, errW_none, errW_some] <;> rfl), by repeat (with_reducible first | exact HB.out | apply bA | apply bN | apply bD | refine below_set ?_ GE301.out | refine below_set ?_ GE302.out)⟩
  ·replace c6 := Bool.eq_false_iff.mpr c6
   subst c6
   have H1 : (some false) = some r := by rw [if_neg (show ¬ (false = true) by decide)] at H; exact H
   clear H
   have H := H1
   clear H1
   obtain rfl := Option.some.inj H
   go_enter Try.func44, Try.ntmps44
   go_wp2_with (first | ((with_reducible refine gate_dst (N := 2) rfl ?_); refine box_event ?hg (N := 2) ?hd (cs := #[.slice A0_0 l0_0.length c0_0, .slice A0_1 l0_1.length c0_1, .int .i64 a0_2]) (t := 27) ?hr ?_; (case hd => rfl); (case hg => rfl); (case hr => first | (go_simp; done) | (go_simp; rfl)); intro gb301 hg w12 hbox hb; have BK301 := Aside0.mk (hbox); have GW301 := Aside0.mk ((by rw [hg]; exact (below_size (by repeat (with_reducible first | exact HB.out | apply bA | apply bN | apply bD))) : w.heap.size ≤ gb301)); have GE301 := Aside0.mk ((by rw [hg]; exact (below_size (by repeat (with_reducible first | exact HB.out | apply bA | apply bN | apply bD))) : w.heap.size ≤ gb301)); replace HB := Aside0.mk (below_step (by repeat (with_reducible first | exact HB.out | apply bA | apply bN | apply bD)) hb); clear hb hbox hg) | ((with_reducible refine gate_dst (N := 3) rfl ?_); refine box_event ?hg (N := 3) ?hd (cs := #[.slice A1_0 l1_0.length c1_0, .slice A1_1 l1_1.length c1_1, .int .i64 a1_2]) (t := 27) ?hr ?_; (case hd => rfl); (case hg => rfl); (case hr => first | (go_simp; done) | (go_simp; rfl)); intro gb302 hg w13 hbox hb; have BK302 := Aside0.mk (hbox); have GW302 := Aside0.mk ((by rw [hg]; exact (below_size (by repeat (with_reducible first | exact HB.out | apply bA | apply bN | apply bD | refine below_set ?_ GE301.out))) : w.heap.size ≤ gb302)); have GE302 := Aside0.mk ((by rw [hg]; exact (below_size (by repeat (with_reducible first | exact HB.out | apply bA | apply bN | apply bD | refine below_set ?_ GE301.out))) : w.heap.size ≤ gb302)); replace HB := Aside0.mk (below_step (by repeat (with_reducible first | exact HB.out | apply bA | apply bN | apply bD | refine below_set ?_ GE301.out)) hb); have NB301_302 := Aside0.mk ((by rw [hg]; exact Nat.ne_of_lt (blk_lt (g := gb301) (o := .cells #[.slice A0_0 l0_0.length c0_0, .slice A0_1 l0_1.length c0_1, .int .i64 a0_2] 27 (0, 0)) (by (with_reducible repeat (first | refine blk_drewN ?_ _ | refine blk_drew ?_ | refine blk_alloc ?_ _)); exact BK301.out)) : gb301 ≠ gb302)); have NB302_301 := Aside0.mk ((by rw [hg]; exact Nat.ne_of_gt (blk_lt (g := gb301) (o := .cells #[.slice A0_0 l0_0.length c0_0, .slice A0_1 l0_1.length c0_1, .int .i64 a0_2] 27 (0, 0)) (by (with_reducible repeat (first | refine blk_drewN ?_ _ | refine blk_drew ?_ | refine blk_alloc ?_ _)); exact BK301.out)) : gb302 ≠ gb301)); replace BK301 := Aside0.mk (blk_below (g := gb301) (o := .cells #[.slice A0_0 l0_0.length c0_0, .slice A0_1 l0_1.length c0_1, .int .i64 a0_2] 27 (0, 0)) (by (with_reducible repeat (first | refine blk_drewN ?_ _ | refine blk_drew ?_ | refine blk_alloc ?_ _)); exact BK301.out) hb); clear hb hbox hg; have hnb14 := NB301_302.out; have hnc14 := NB302_301.out; have hcz15_0 : w13.cell? ⟨gb301, 0, none⟩ = some (.slice A0_0 l0_0.length c0_0) := (blk_cell BK301.out 0).trans rfl; have hcz15_1 : w13.cell? ⟨gb301, 1, none⟩ = some (.slice A0_1 l0_1.length c0_1) := (blk_cell BK301.out 1).trans rfl; have hcz15_2 : w13.cell? ⟨gb301, 2, none⟩ = some (.int .i64 a0_2) := (blk_cell BK301.out 2).trans rfl; have hfz15_0 := blk_frozen BK301.out 0; have hfz15_1 := blk_frozen BK301.out 1; have hfz15_2 := blk_frozen BK301.out 2; have hcz16_0 : w13.cell? ⟨gb302, 0, none⟩ = some (.slice A1_0 l1_0.length c1_0) := (blk_cell BK302.out 0).trans rfl; have hcz16_1 : w13.cell? ⟨gb302, 1, none⟩ = some (.slice A1_1 l1_1.length c1_1) := (blk_cell BK302.out 1).trans rfl; have hcz16_2 : w13.cell? ⟨gb302, 2, none⟩ = some (.int .i64 a1_2) := (blk_cell BK302.out 2).trans rfl; have hfz16_0 := blk_frozen BK302.out 0; have hfz16_1 := blk_frozen BK302.out 1; have hfz16_2 := blk_frozen BK302.out 2) | ((with_reducible refine gate_callee (f := 68) rfl ?_); refine goesL_ (some 9) rfl rfl Try.func68 (by kernel_rfl) rfl #[.slice A0_0 l0_0.length c0_0, .slice A1_0 l1_0.length c1_0] rfl (by (try simp only [List.map_toArray, List.map_cons, List.map_nil]); first | done | rfl) ?_; (with_reducible refine (slices_Equal_int_int.calls k _ _ l0_0 _ _ l1_0 true _ ?side1 ?side2 ?side3 ?side4 A3.out).mono ?_); (case side1 => repeat (first | exact (Kd.C_below HR0_0.out HB.out) | (with_reducible refine Kd.C_alloc ?_ _) | (with_reducible refine Kd.C_drewN ?_ _) | (with_reducible refine Kd.C_drew ?_))); (case side2 => exact HC0_0.out); (case side3 => repeat (first | exact (Kd.C_below HR1_0.out HB.out) | (with_reducible refine Kd.C_alloc ?_ _) | (with_reducible refine Kd.C_drewN ?_ _) | (with_reducible refine Kd.C_drew ?_))); (case side4 => exact HC1_0.out); rintro e w' ⟨rfl, ⟨nd, rfl⟩⟩; refine ⟨_, rfl, ?_⟩) | (go_at_call 68; (with_reducible refine (slices_Equal_int_int.calls k _ _ l0_1 _ _ l1_1 false _ ?side1 ?side2 ?side3 ?side4 A5.out).mono ?_); (case side1 => repeat (first | exact (Kd.C_below HR0_1.out (by repeat (with_reducible first | exact HB.out | apply bA | apply bN | apply bD | refine below_set ?_ GE301.out | refine below_set ?_ GE302.out))) | (with_reducible refine Kd.C_alloc ?_ _) | (with_reducible refine Kd.C_drewN ?_ _) | (with_reducible refine Kd.C_drew ?_))); (case side2 => exact HC0_1.out); (case side3 => repeat (first | exact (Kd.C_below HR1_1.out (by repeat (with_reducible first | exact HB.out | apply bA | apply bN | apply bD | refine below_set ?_ GE301.out | refine below_set ?_ GE302.out))) | (with_reducible refine Kd.C_alloc ?_ _) | (with_reducible refine Kd.C_drewN ?_ _) | (with_reducible refine Kd.C_drew ?_))); (case side4 => exact HC1_1.out); rintro e w' ⟨rfl, ⟨nd, rfl⟩⟩))
   go_ret
   exact ⟨by first | rfl | (simp [*, errW_none, errW_some] <;> rfl), by repeat (with_reducible first | exact HB.out | apply bA | apply bN | apply bD | refine below_set ?_ GE301.out | refine below_set ?_ GE302.out)⟩
 ·replace c4 := Bool.eq_false_iff.mpr c4
  subst c4
  have H1 : (some false) = some r := by rw [if_neg (show ¬ (false = true) by decide)] at H; exact H
  clear H
  have H := H1
  clear H1
  obtain rfl := Option.some.inj H
  go_enter Try.func44, Try.ntmps44
  go_wp2_with (first | ((with_reducible refine gate_dst (N := 2) rfl ?_); refine box_event ?hg (N := 2) ?hd (cs := #[.slice A0_0 l0_0.length c0_0, .slice A0_1 l0_1.length c0_1, .int .i64 a0_2]) (t := 27) ?hr ?_; (case hd => rfl); (case hg => rfl); (case hr => first | (go_simp; done) | (go_simp; rfl)); intro gb301 hg w17 hbox hb; have BK301 := Aside0.mk (hbox); have GW301 := Aside0.mk ((by rw [hg]; exact (below_size (by repeat (with_reducible first | exact HB.out | apply bA | apply bN | apply bD))) : w.heap.size ≤ gb301)); have GE301 := Aside0.mk ((by rw [hg]; exact (below_size (by repeat (with_reducible first | exact HB.out | apply bA | apply bN | apply bD))) : w.heap.size ≤ gb301)); replace HB := Aside0.mk (below_step (by repeat (with_reducible first | exact HB.out | apply bA | apply bN | apply bD)) hb); clear hb hbox hg) | ((with_reducible refine gate_dst (N := 3) rfl ?_); refine box_event ?hg (N := 3) ?hd (cs := #[.slice A1_0 l1_0.length c1_0, .slice A1_1 l1_1.length c1_1, .int .i64 a1_2]) (t := 27) ?hr ?_; (case hd => rfl); (case hg => rfl); (case hr => first | (go_simp; done) | (go_simp; rfl)); intro gb302 hg w18 hbox hb; have BK302 := Aside0.mk (hbox); have GW302 := Aside0.mk ((by rw [hg]; exact (below_size (by repeat (with_reducible first | exact HB.out | apply bA | apply bN | apply bD | refine below_set ?_ GE301.out))) : w.heap.size ≤ gb302)); have GE302 := Aside0.mk ((by rw [hg]; exact (below_size (by repeat (with_reducible first | exact HB.out | apply bA | apply bN | apply bD | refine below_set ?_ GE301.out))) : w.heap.size ≤ gb302)); replace HB := Aside0.mk (below_step (by repeat (with_reducible first | exact HB.out | apply bA | apply bN | apply bD | refine below_set ?_ GE301.out)) hb); have NB301_302 := Aside0.mk ((by rw [hg]; exact Nat.ne_of_lt (blk_lt (g := gb301) (o := .cells #[.slice A0_0 l0_0.length c0_0, .slice A0_1 l0_1.length c0_1, .int .i64 a0_2] 27 (0, 0)) (by (with_reducible repeat (first | refine blk_drewN ?_ _ | refine blk_drew ?_ | refine blk_alloc ?_ _)); exact BK301.out)) : gb301 ≠ gb302)); have NB302_301 := Aside0.mk ((by rw [hg]; exact Nat.ne_of_gt (blk_lt (g := gb301) (o := .cells #[.slice A0_0 l0_0.length c0_0, .slice A0_1 l0_1.length c0_1, .int .i64 a0_2] 27 (0, 0)) (by (with_reducible repeat (first | refine blk_drewN ?_ _ | refine blk_drew ?_ | refine blk_alloc ?_ _)); exact BK301.out)) : gb302 ≠ gb301)); replace BK301 := Aside0.mk (blk_below (g := gb301) (o := .cells #[.slice A0_0 l0_0.length c0_0, .slice A0_1 l0_1.length c0_1, .int .i64 a0_2] 27 (0, 0)) (by (with_reducible repeat (first | refine blk_drewN ?_ _ | refine blk_drew ?_ | refine blk_alloc ?_ _)); exact BK301.out) hb); clear hb hbox hg; have hnb19 := NB301_302.out; have hnc19 := NB302_301.out; have hcz20_0 : w18.cell? ⟨gb301, 0, none⟩ = some (.slice A0_0 l0_0.length c0_0) := (blk_cell BK301.out 0).trans rfl; have hcz20_1 : w18.cell? ⟨gb301, 1, none⟩ = some (.slice A0_1 l0_1.length c0_1) := (blk_cell BK301.out 1).trans rfl; have hcz20_2 : w18.cell? ⟨gb301, 2, none⟩ = some (.int .i64 a0_2) := (blk_cell BK301.out 2).trans rfl; have hfz20_0 := blk_frozen BK301.out 0; have hfz20_1 := blk_frozen BK301.out 1; have hfz20_2 := blk_frozen BK301.out 2; have hcz21_0 : w18.cell? ⟨gb302, 0, none⟩ = some (.slice A1_0 l1_0.length c1_0) := (blk_cell BK302.out 0).trans rfl; have hcz21_1 : w18.cell? ⟨gb302, 1, none⟩ = some (.slice A1_1 l1_1.length c1_1) := (blk_cell BK302.out 1).trans rfl; have hcz21_2 : w18.cell? ⟨gb302, 2, none⟩ = some (.int .i64 a1_2) := (blk_cell BK302.out 2).trans rfl; have hfz21_0 := blk_frozen BK302.out 0; have hfz21_1 := blk_frozen BK302.out 1; have hfz21_2 := blk_frozen BK302.out 2) | ((with_reducible refine gate_callee (f := 68) rfl ?_); refine goesL_ (some 9) rfl rfl Try.func68 (by kernel_rfl) rfl #[.slice A0_0 l0_0.length c0_0, .slice A1_0 l1_0.length c1_0] rfl (by (try simp only [List.map_toArray, List.map_cons, List.map_nil]); first | done | rfl) ?_; (with_reducible refine (slices_Equal_int_int.calls k _ _ l0_0 _ _ l1_0 false _ ?side1 ?side2 ?side3 ?side4 A3.out).mono ?_); (case side1 => repeat (first | exact (Kd.C_below HR0_0.out HB.out) | (with_reducible refine Kd.C_alloc ?_ _) | (with_reducible refine Kd.C_drewN ?_ _) | (with_reducible refine Kd.C_drew ?_))); (case side2 => exact HC0_0.out); (case side3 => repeat (first | exact (Kd.C_below HR1_0.out HB.out) | (with_reducible refine Kd.C_alloc ?_ _) | (with_reducible refine Kd.C_drewN ?_ _) | (with_reducible refine Kd.C_drew ?_))); (case side4 => exact HC1_0.out); rintro e w' ⟨rfl, ⟨nd, rfl⟩⟩; refine ⟨_, rfl, ?_⟩))
  go_ret
  exact ⟨by first | rfl | (simp [*, errW_none, errW_some] <;> rfl), by repeat (with_reducible first | exact HB.out | apply bA | apply bN | apply bD | refine below_set ?_ GE301.out | refine below_set ?_ GE302.out)⟩

/-! ### slices_Index_int_int: function 69 -/
def slices_Index_int_int.l0 : Nat → List Int → Int → Int → Int → Option (Int)
 | 0, _, _, _, _ => none
 | k + 1, x0, x1, x7, x8 => if x8 < x7 then (if 0 ≤ x8 then (if x8 < (x0.length : Int) then (if x1 = (rd x0 x8) then (some x8) else (slices_Index_int_int.l0 k x0 x1 x7 (wrap64 (x8 + 1)))) else (none)) else (none)) else (some (-1))
def slices_Index_int_int.f (k : Nat) (l0 : List Int) (a1 : Int) : Option (Int) := slices_Index_int_int.l0 k l0 a1 (l0.length : Int) 0
theorem slices_Index_int_int.mono_l : ∀ k, (∀ y0 y1 y2 y3, LeO (slices_Index_int_int.l0 k y0 y1 y2 y3) (slices_Index_int_int.l0 (k + 1) y0 y1 y2 y3))
 | 0 => fun _ _ _ _ r h => by simp [slices_Index_int_int.l0] at h
 | k + 1 => by
  have ih0 := slices_Index_int_int.mono_l k
  ·intro y0 y1 y2 y3
   unfold slices_Index_int_int.l0
   repeat' first
   | (with_reducible exact ih0 _ _ _ _)
   | (with_reducible exact LeO.refl _)
   | (with_reducible exact LeO.none _)
   | (with_reducible refine LeO.ite ?_ ?_)
   | (with_reducible refine LeO.bind ?_ (fun _ => ?_))
   | exact LeO.none _
   | refine LeO.ite ?_ ?_
   | refine LeO.bind ?_ (fun _ => ?_)
theorem slices_Index_int_int.mono : ∀ a0 a1 k, LeO (slices_Index_int_int.f k a0 a1) (slices_Index_int_int.f (k + 1) a0 a1) := by
 intro a0 a1 k
 have ih0 := slices_Index_int_int.mono_l k
 unfold slices_Index_int_int.f
 repeat' first
   | (with_reducible exact ih0 _ _ _ _)
   | (with_reducible exact LeO.refl _)
   | (with_reducible exact LeO.none _)
   | (with_reducible refine LeO.ite ?_ ?_)
   | (with_reducible refine LeO.bind ?_ (fun _ => ?_))
   | exact LeO.none _
   | refine LeO.ite ?_ ?_
   | refine LeO.bind ?_ (fun _ => ?_)
theorem slices_Index_int_int.calls (k : Nat) (A0 : Option Addr) (c0 : Nat) (l0 : List Int) (a1 : Int) (r : Int) (w : World) (hr0 : Kd.C (Kd.int .i64) w A0 l0.length l0) (hc0 : l0.length ≤ c0) (h : slices_Index_int_int.f k l0 a1 = some r) :
  Calls Try.prog 69 #[.slice A0 l0.length c0, .int .i64 a1] w fun e w' => e = .returned (.int .i64 r) ∧ Drawn0 w w' := by
 have HR0 := Aside0.mk hr0
 have HC0 := Aside0.mk hc0
 clear hr0 hc0
 have H : (slices_Index_int_int.l0 k l0 a1 (l0.length : Int) 0) = some r := h
 clear h
 have H' := Aside0.mk H
 clear H
 go_enter Try.func69, Try.ntmps69
 go_wp2
 go_loopg [8] k (fun kq v8 w' => ∃ (x8_1 : Int), v8 = .int .i64 x8_1 ∧ Aside0 (slices_Index_int_int.l0 kq l0 a1 (l0.length : Int) x8_1 = some r) ∧ Aside0 (kq ≤ k) ∧ Drawn0 w w')
 case atStart => exact ⟨(0), (by first | rfl | (simp; done) | (simp [*]; done)), H', ⟨Nat.le_refl _⟩, by repeat (first | exact Drawn0.refl _ | apply Drawn0.step)⟩
 case round =>
  clear H'
  try clear p2
  obtain ⟨x8_1, rfl, HA, HK1, ⟨m1, rfl⟩⟩ := hrel
  cases gk with
  | zero => exact absurd HA.out (by simp [slices_Index_int_int.l0])
  | succ k1 =>
   have H := HA.out
   clear HA
   simp only [slices_Index_int_int.l0] at H
   by_cases c3 : x8_1 < (l0.length : Int)
   ·rw [if_pos c3] at H
    have c3b0 : decide (x8_1 < (l0.length : Int)) = true := decide_eq_true c3
    clear c3
    by_cases c4 : 0 ≤ x8_1
    ·rw [if_pos c4] at H
     have c4b0 : decide (0 ≤ x8_1) = true := decide_eq_true c4
     clear c4
     by_cases c5 : x8_1 < (l0.length : Int)
     ·rw [if_pos c5] at H
      have c5b0 : decide (x8_1 < (l0.length : Int)) = true := decide_eq_true c5
      clear c5
      by_cases c6 : a1 = (rd l0 x8_1)
      ·rw [if_pos c6] at H
       have c6b0 : (a1 == (rd l0 x8_1)) = true := beq_iff_eq.mpr c6
       have c6b1 : (a1 != (rd l0 x8_1)) = false := bne_eq_false_iff_eq.mpr c6
       clear c6
       obtain rfl := Option.some.inj H
       have p305 : 0 ≤ (x8_1 : Int) := of_decide_eq_true (by assumption)
       have q305 : x8_1 < (l0.length : Int) := of_decide_eq_true (by assumption)
       obtain ⟨ad305, e305, hx305_0⟩ := Kd.at_int HR0.out x8_1 p305 q305
       cases e305
       replace p305 := eq_true p305
       replace q305 := eq_true q305
       go_wp2
       go_ret
       exact ⟨by first | rfl | (simp; done) | (simp [*]; done), by repeat (first | exact Drawn0.refl _ | apply Drawn0.step)⟩
      ·rw [if_neg c6] at H
       have c6b0 : (a1 == (rd l0 x8_1)) = false := beq_eq_false_iff_ne.mpr c6
       have c6b1 : (a1 != (rd l0 x8_1)) = true := bne_iff_ne.mpr c6
       have H' := Aside0.mk H
       clear H
       have p305 : 0 ≤ (x8_1 : Int) := of_decide_eq_true (by assumption)
       have q305 : x8_1 < (l0.length : Int) := of_decide_eq_true (by assumption)
       obtain ⟨ad305, e305, hx305_0⟩ := Kd.at_int HR0.out x8_1 p305 q305
       cases e305
       replace p305 := eq_true p305
       replace q305 := eq_true q305
       go_wp2
       go_roundg k1
       case measure => have := HK1.out; omega
       case rel => exact ⟨(wrap64 (x8_1 + 1)), (by first | rfl | (simp; done) | (simp [*]; done)), H', ⟨by have := HK1.out; omega⟩, by repeat (first | exact Drawn0.refl _ | apply Drawn0.step)⟩
     ·rw [if_neg c5] at H
      exact absurd H (by simp)
    ·rw [if_neg c4] at H
     exact absurd H (by simp)
   ·rw [if_neg c3] at H
    have c3b0 : decide (x8_1 < (l0.length : Int)) = false := decide_eq_false c3
    clear c3
    obtain rfl := Option.some.inj H
    go_wp2
    go_ret
    exact ⟨by first | rfl | (simp; done) | (simp [*]; done), by repeat (first | exact Drawn0.refl _ | apply Drawn0.step)⟩

/-! ### slices_Contains_int_int: function 70 -/
def slices_Contains_int_int.f (k : Nat) (l0 : List Int) (a1 : Int) : Option (Bool) := (slices_Index_int_int.f k l0 a1).bind fun t306 => (some (decide (t306 ≥ 0)))
theorem slices_Contains_int_int.mono : ∀ a0 a1 k, LeO (slices_Contains_int_int.f k a0 a1) (slices_Contains_int_int.f (k + 1) a0 a1) := by
 intro a0 a1 k
 unfold slices_Contains_int_int.f
 repeat' first
   | (with_reducible exact slices_Index_int_int.mono _ _ _)
   | (with_reducible exact LeO.refl _)
   | (with_reducible exact LeO.none _)
   | (with_reducible refine LeO.ite ?_ ?_)
   | (with_reducible refine LeO.bind ?_ (fun _ => ?_))
   | exact LeO.none _
   | refine LeO.ite ?_ ?_
   | refine LeO.bind ?_ (fun _ => ?_)
theorem slices_Contains_int_int.calls (k : Nat) (A0 : Option Addr) (c0 : Nat) (l0 : List Int) (a1 : Int) (r : Bool) (w : World) (hr0 : Kd.C (Kd.int .i64) w A0 l0.length l0) (hc0 : l0.length ≤ c0) (h : slices_Contains_int_int.f k l0 a1 = some r) :
  Calls Try.prog 70 #[.slice A0 l0.length c0, .int .i64 a1] w fun e w' => e = .returned (.bool r) ∧ Drawn0 w w' := by
 have HR0 := Aside0.mk hr0
 have HC0 := Aside0.mk hc0
 clear hr0 hc0
 have H : ((slices_Index_int_int.f k l0 a1).bind fun t306 => (some (decide (t306 ≥ 0)))) = some r := h
 clear h
 replace H := Option.bind_eq_some_iff.mp H
 obtain ⟨t306, A30, H⟩ := H
 replace H : (some (decide (t306 ≥ 0))) = some r := H
 have A3 := Aside0.mk A30
 clear A30
 obtain rfl := Option.some.inj H
 go_enter Try.func70, Try.ntmps70
 go_wp2_with (first | ((with_reducible refine gate_callee (f := 69) rfl ?_); refine goesL_ (some 7) rfl rfl Try.func69 (by kernel_rfl) rfl #[.slice A0 l0.length c0, .int .i64 a1] rfl (by (try simp only [List.map_toArray, List.map_cons, List.map_nil]); first | done | rfl) ?_; (with_reducible refine (slices_Index_int_int.calls k _ _ l0 a1 t306 _ ?side1 ?side2 A3.out).mono ?_); (case side1 => repeat (first | exact HR0.out | (with_reducible refine Kd.C_alloc ?_ _) | (with_reducible refine Kd.C_drewN ?_ _) | (with_reducible refine Kd.C_drew ?_))); (case side2 => exact HC0.out); rintro e w' ⟨rfl, ⟨nd, rfl⟩⟩; refine ⟨_, rfl, ?_⟩))
 go_ret
 exact ⟨by first | rfl | (simp; done) | (simp [*]; done), by repeat (first | exact Drawn0.refl _ | apply Drawn0.step)⟩

end Go.Proofs.Ytlbaldejaapbiaa.QFnExactStepState
