/- Words and tables for the law FnComponentsWalked. -/
import Derived.Test.YtfencncopkeobaaQFnComponentsWalkedx9
import Derived.Test.YtfencncopkeobaaPureFnComponentsWalkedA
import Derived.Test.YtfencncopkeobaaMyPl
namespace Go.Proofs.Ytfencncopkeobaa.Pure
open Go.RowKit Go.Proofs.Ytfencncopkeobaa.QFnComponentsWalked Go.Proofs.YtfencncopkeobaaW.PrintWords Go.Proofs.YtfencncopkeobaaW.PrintLast
open laws_FnComponentsWalked
set_option linter.unusedVariables false
set_option linter.unusedSimpArgs false
theorem six_parts : Pl.sysList 6 = (((Pl.sysList 6).drop 0).take 22) ++ ((((Pl.sysList 6).drop 22).take 22) ++ ((((Pl.sysList 6).drop 44).take 22) ++ ((((Pl.sysList 6).drop 66).take 22) ++ ((((Pl.sysList 6).drop 88).take 22) ++ (((Pl.sysList 6).drop 110).take 22))))) := by decide +kernel
theorem rg_at {n : Nat} (h7 : n < 7) {l m : List Int} (hl : l ∈ Pl.sysList n) (hm : m ∈ Pl.sysList n) : rgB (coloursOf l m).1 (coloursOf l m).2 = true := by
 by_cases h6 : n < 6
 ·exact List.all_eq_true.1 (List.all_eq_true.1 (List.all_eq_true.1 rg_tab n (List.mem_range.2 h6)) l hl) m hm
 ·obtain rfl : n = 6 := by omega
  rw [six_parts] at hl
  have go : ∀ (L : List (List Int)), L.all (fun l => (Pl.sysList 6).all fun m => rgB (coloursOf l m).1 (coloursOf l m).2) = true → l ∈ L → rgB (coloursOf l m).1 (coloursOf l m).2 = true := fun L h1 h2 => List.all_eq_true.1 (List.all_eq_true.1 h1 l h2) m hm
  rcases List.mem_append.1 hl with hl | hl
  ·exact go _ rg_tab6_0 hl
  rcases List.mem_append.1 hl with hl | hl
  ·exact go _ rg_tab6_1 hl
  rcases List.mem_append.1 hl with hl | hl
  ·exact go _ rg_tab6_2 hl
  rcases List.mem_append.1 hl with hl | hl
  ·exact go _ rg_tab6_3 hl
  rcases List.mem_append.1 hl with hl | hl
  ·exact go _ rg_tab6_4 hl
  ·exact go _ rg_tab6_5 hl
noncomputable def compR (l m : List Int) : Int × Bool := if pairB l m = true then ((coloursOf l m).2, true) else (0, false)
theorem implComp_any (l m : List Int) (hl : l.length ≤ 1048576) (hm : m.length ≤ 1048576) : (∃ K, ∀ k, K ≤ k → impl_ComponentsOf.f k l m = some (compR l m)) := by
 obtain ⟨K1, h1⟩ := IsPair_any l m (by omega) (by omega)
 by_cases h : pairB l m = true
 ·obtain ⟨K2, h2⟩ := curves_any (pairB_two h)
  exact ⟨K1 + K2, fun k hk => by simp (disch := omega) only [impl_ComponentsOf.f, impl_Meander_components.f, h1, h, h2, Option.bind_some, compR, if_true]⟩
 ·exact ⟨K1, fun k hk => by simp (disch := omega) only [impl_ComponentsOf.f, h1, h, Option.bind_some, compR, if_false, Bool.false_eq_true]⟩
noncomputable def curvR (l m : List Int) : List Int × Bool := if pairB l m = true then ((coloursOf l m).1, true) else ([], false)
theorem curvR_length (l m : List Int) : (curvR l m).1.length ≤ 12 := by
 unfold curvR
 split
 ·rename_i h
  have h := pairB_two h
  have hs := h.small
  obtain ⟨_, hl, _, _⟩ := coloursOf_hue h
  simp only []; omega
 ·simp
theorem implCurv_any (l m : List Int) (hl : l.length ≤ 1048576) (hm : m.length ≤ 1048576) : (∃ K, ∀ k, K ≤ k → impl_CurveOfPoints.f k l m = some (curvR l m)) := by
 obtain ⟨K1, h1⟩ := IsPair_any l m (by omega) (by omega)
 by_cases h : pairB l m = true
 ·obtain ⟨K2, h2⟩ := curves_any (pairB_two h)
  exact ⟨K1 + K2, fun k hk => by simp (disch := omega) only [impl_CurveOfPoints.f, h1, h, h2, Option.bind_some, curvR, if_true]⟩
 ·exact ⟨K1, fun k hk => by simp (disch := omega) only [impl_CurveOfPoints.f, h1, h, Option.bind_some, curvR, if_false, Bool.false_eq_true]⟩
theorem specCurv_any (l m : List Int) (hl : l.length ≤ 1048576) (hm : m.length ≤ 1048576) : (∃ K, ∀ k, K ≤ k → spec_CurveOfPoints.f k l m = some (curvR l m)) := by
 obtain ⟨K1, h1⟩ := mePair_any l m (by omega) (by omega)
 by_cases h : pairB l m = true
 ·obtain ⟨K2, h2⟩ := meColours_any (pairB_two h)
  exact ⟨K1 + K2, fun k hk => by simp (disch := omega) only [spec_CurveOfPoints.f, h1, h, h2, Option.bind_some, curvR, if_true]⟩
 ·exact ⟨K1, fun k hk => by simp (disch := omega) only [spec_CurveOfPoints.f, h1, h, Option.bind_some, curvR, if_false, Bool.false_eq_true]⟩
noncomputable def wayR (l m : List Int) (a : Int) : List Int × Bool := if pairB l m = true ∧ (0 ≤ a ∧ a ≤ (l.length : Int) - 1) then (wayL l m a, true) else ([], false)
theorem wayR_length (l m : List Int) (a : Int) : (wayR l m a).1.length ≤ 24 := by
 unfold wayR
 split
 ·rename_i h; exact wayL_length (pairB_two h.1) h.2.1 (by omega)
 ·simp
theorem implWay_any (l m : List Int) (a : Int) (hl : l.length ≤ 1048576) (hm : m.length ≤ 1048576) : (∃ K, ∀ k, K ≤ k → impl_WayFrom.f k l m a = some (wayR l m a)) := by
 obtain ⟨K1, h1⟩ := IsPair_any l m (by omega) (by omega)
 by_cases h : pairB l m = true ∧ (0 ≤ a ∧ a ≤ (l.length : Int) - 1)
 ·obtain ⟨K2, h2⟩ := way_any (pairB_two h.1) h.2.1 (show a < l.length by omega)
  refine ⟨K1 + K2, fun k hk => ?_⟩
  simp (disch := omega) only [impl_WayFrom.f, h1, h2, in_any, w64, h.1, decide_eq_true h.2, Option.bind_some, if_true, wayR, h, and_self, decide_true]
 ·refine ⟨K1, fun k hk => ?_⟩
  simp (disch := omega) only [impl_WayFrom.f, h1, in_any, w64, Option.bind_some, wayR, if_neg h]
  cases hp : pairB l m
  ·simp
  ·simp only [if_true]
   rw [decide_eq_false (fun h2 => h ⟨hp, h2⟩)]; simp
theorem specWay2_any (l m : List Int) (a : Int) (hl : l.length ≤ 1048576) (hm : m.length ≤ 1048576) : (∃ K, ∀ k, K ≤ k → spec_WayFrom.f k l m a = some (wayR l m a)) := by
 obtain ⟨K1, h1⟩ := mePair_any l m (by omega) (by omega)
 by_cases h : pairB l m = true ∧ (0 ≤ a ∧ a ≤ (l.length : Int) - 1)
 ·obtain ⟨K2, h2⟩ := specWay_any (pairB_two h.1) h.2.1 (show a < l.length by omega)
  refine ⟨K1 + K2, fun k hk => ?_⟩
  simp (disch := omega) only [spec_WayFrom.f, h1, h2, l1In_any, w64, h.1, decide_eq_true h.2, Option.bind_some, if_true, wayR, h, and_self, decide_true]
 ·refine ⟨K1, fun k hk => ?_⟩
  simp (disch := omega) only [spec_WayFrom.f, h1, l1In_any, w64, Option.bind_some, wayR, if_neg h]
  cases hp : pairB l m
  ·simp
  ·simp only [if_true]
   rw [decide_eq_false (fun h2 => h ⟨hp, h2⟩)]; simp
noncomputable def isMeR (l m : List Int) : Bool × Bool := if pairB l m = true then ((coloursOf l m).2 == 1, true) else (false, false)
theorem implIsMe_any (l m : List Int) (hl : l.length ≤ 1048576) (hm : m.length ≤ 1048576) : (∃ K, ∀ k, K ≤ k → impl_IsMeander.f k l m = some (isMeR l m)) := by
 obtain ⟨K1, h1⟩ := IsPair_any l m (by omega) (by omega)
 by_cases h : pairB l m = true
 ·obtain ⟨K2, h2⟩ := curves_any (pairB_two h)
  exact ⟨K1 + K2, fun k hk => by simp (disch := omega) only [impl_IsMeander.f, impl_Meander_isOne.f, impl_Meander_components.f, h1, h, h2, Option.bind_some, isMeR, if_true]⟩
 ·exact ⟨K1, fun k hk => by simp (disch := omega) only [impl_IsMeander.f, h1, h, Option.bind_some, isMeR, if_false, Bool.false_eq_true]⟩
def pz : Nat → ByteArray → List Int → List Int → Int → Option (List Int × List Int)
 | 0, _, out, op, _ => some (out, op)
 | d + 1, s, out, op, i =>
  if bt s i = 40 then pz d s out (op ++ [i]) (i + 1)
  else if bt s i = 41 ∧ (op.length : Int) > 0 then
   pz d s ((out.set (rd op ((op.length : Int) - 1)).toNat i).set i.toNat (rd op ((op.length : Int) - 1))) (op.take (op.length - 1)) (i + 1)
  else none
def OpenOk (op : List Int) (i : Int) : Prop := (∀ x ∈ op, 0 ≤ x ∧ x < i) ∧ (op.length : Int) ≤ i
theorem OpenOk.push {op : List Int} {i : Int} (h : OpenOk op i) (h0 : 0 ≤ i) : OpenOk (op ++ [i]) (i + 1) := by
 refine ⟨fun x hx => ?_, by simp; exact h.2⟩
 rcases List.mem_append.1 hx with hx | hx
 ·have := h.1 x hx; omega
 ·have : x = i := by simpa using hx
  omega
theorem OpenOk.pop {op : List Int} {i : Int} (h : OpenOk op i) : OpenOk (op.take (op.length - 1)) (i + 1) := by
 refine ⟨fun x hx => ?_, by simp; have := h.2; omega⟩
 have := h.1 x (List.mem_of_mem_take hx); omega
theorem OpenOk.last {op : List Int} {i : Int} (h : OpenOk op i) (hl : (op.length : Int) > 0) : 0 ≤ rd op ((op.length : Int) - 1) ∧ rd op ((op.length : Int) - 1) < i :=
 h.1 _ (rd_mem op _ (by omega) (by omega))
def pzOut : Option (List Int × List Int) → List Int × Bool
 | none => ([], false)
 | some (o, op) => if op.length = 0 then (o, true) else ([], false)
theorem pz_length (s : ByteArray) (d : Nat) : ∀ (out op : List Int) (i : Int) o p, pz d s out op i = some (o, p) → o.length = out.length := by
 induction d with
 | zero => intro out op i o p h; simp [pz] at h; rw [h.1]
 | succ d ih =>
  intro out op i o p h
  unfold pz at h
  split at h
  ·exact ih _ _ _ _ _ h
  ·split at h
   ·have := ih _ _ _ _ _ h
    simpa using this
   ·cases h
theorem ahParse_l (s : ByteArray) (hs : s.size ≤ 1048576) (d : Nat) : ∀ (out op : List Int) (i : Int), 0 ≤ i → (s.size : Int) = i + d → out.length = s.size → OpenOk op i →
  (∃ K, ∀ k, K ≤ k → spec_ahParse.l0 k s out op i = some (pzOut (pz d s out op i))) := by
 induction d with
 | zero =>
  intro out op i h0 hd ho hop
  refine ev_rs 0 fun m _ => ?_
  simp (disch := omega) only [spec_ahParse.l0, if_neg, pz, pzOut]
  by_cases h : (op.length : Int) > 0
  ·rw [if_pos h, if_neg (by omega)]
  ·rw [if_neg h, if_pos (by omega)]
 | succ d ih =>
  intro out op i h0 hd ho hop
  have hol := hop.2
  by_cases h40 : bt s i = 40
  ·obtain ⟨K, ih⟩ := ih out (op ++ [i]) (i + 1) (by omega) (by omega) ho (hop.push h0)
   refine ev_rs K fun m hm => ?_
   simp (disch := omega) only [spec_ahParse.l0, if_pos, if_neg, w64, pz]
   exact ih m hm
  ·by_cases h41 : bt s i = 41 ∧ (op.length : Int) > 0
   ·obtain ⟨g0, g1⟩ := hop.last h41.2
    obtain ⟨K, ih⟩ := ih ((out.set (rd op ((op.length : Int) - 1)).toNat i).set i.toNat (rd op ((op.length : Int) - 1))) (op.take (op.length - 1)) (i + 1) (by omega) (by omega) (by simpa using ho) hop.pop
    refine ev_rs K fun m hm => ?_
    have e : ((op.length : Int) - 1).toNat = op.length - 1 := by omega
    simp (disch := omega) only [spec_ahParse.l0, if_pos, if_neg, w64, pz]
    rw [e]
    exact ih m hm
   ·refine ev_rs 0 fun m hm => ?_
    simp (disch := omega) only [spec_ahParse.l0, if_pos, if_neg, w64, pz, pzOut]
    simp
theorem ahParse_any (s : ByteArray) (hs : s.size ≤ 1048576) : (∃ K, ∀ k, K ≤ k → spec_ahParse.f k s = some (if (s.size : Int) > 12 then ([], false) else pzOut (pz s.size s (List.replicate s.size 0) [] 0))) := by
 obtain ⟨K, h⟩ := ahParse_l s hs s.size (List.replicate s.size 0) [] 0 (by omega) (by omega) (by simp) ⟨by simp, by simp⟩
 refine ⟨K, fun k hk => ?_⟩
 unfold spec_ahParse.f
 split
 ·rfl
 ·rw [if_pos (by omega), if_pos (by omega)]
  simpa using h k hk
def parsed (s : ByteArray) : List Int × Bool := if (s.size : Int) > 12 then ([], false) else pzOut (pz s.size s (List.replicate s.size 0) [] 0)
theorem parsed_length (s : ByteArray) : (parsed s).1.length ≤ 12 := by
 unfold parsed
 split
 ·simp
 ·cases h : pz s.size s (List.replicate s.size 0) [] 0 with
  | none => simp [pzOut]
  | some x =>
   have := pz_length _ _ _ _ _ _ _ h
   unfold pzOut
   simp only
   split
   ·simp at this; simp; omega
   ·simp
theorem sSame_l (a : List Int) (hn : a.length < 4611686018427387904) (d : Nat) : ∀ i : Int, 0 ≤ i → (a.length : Int) - i ≤ d → (∃ K, ∀ k, K ≤ k → laws_sSame.l0 k a a (a.length : Int) i = some (true)) := by
 induction d with
 | zero =>
  intro i h0 hd
  refine ev_rs 0 fun m _ => ?_
  simp (disch := omega) only [laws_sSame.l0, if_neg]
 | succ d ih =>
  intro i h0 hd
  by_cases hlt : i < (a.length : Int)
  ·obtain ⟨K, ih⟩ := ih (i + 1) (by omega) (by omega)
   refine ev_rs K fun m hm => ?_
   simp (disch := omega) only [laws_sSame.l0, if_pos, w64, ih m hm, if_true]
  ·refine ev_rs 0 fun m _ => ?_
   simp (disch := omega) only [laws_sSame.l0, if_neg]
theorem sSame_any (a : List Int) (hn : a.length ≤ 35184372088832) : (∃ K, ∀ k, K ≤ k → laws_sSame.f k a a = some (true)) := by
 obtain ⟨K, h⟩ := sSame_l a (by omega) a.length 0 (by omega) (by omega)
 refine ⟨K, fun k hk => ?_⟩
 unfold laws_sSame.f
 rw [if_pos rfl, h k hk]
theorem big_any (a b : List Int) (ha : a.length ≤ 1048576) (hb : (b.length : Int) ≤ 1048576 - a.length) : laws_big.f a b = some false := by
 unfold laws_big.f
 rw [if_neg (by omega), w64 (by omega) (by omega)]
 congr 1
 exact decide_eq_false (by omega)
theorem big_yes (a b : List Int) (h : ¬ (a.length ≤ 1048576 ∧ (b.length : Int) ≤ 1048576 - a.length)) : laws_big.f a b = some true := by
 unfold laws_big.f
 by_cases h1 : (a.length : Int) > 1048576
 ·rw [if_pos h1]
 ·rw [if_neg h1, w64 (by omega) (by omega)]
  congr 1
  exact decide_eq_true (by omega)
theorem wrap_u64 (n : Int) : IntKind.u64.wrap n = n % 18446744073709551616 := by simp [IntKind.wrap, IntKind.bits, IntKind.signed]
theorem and255 (y : Int) : 0 ≤ Go.bits .and .u64 ((IntKind.u64.wrap y) / 1099511627776) 255 ∧ Go.bits .and .u64 ((IntKind.u64.wrap y) / 1099511627776) 255 < 256 := by
 rw [wrap_u64]
 have h := Go.bits_mask .u64 64 (by decide) (fun n h0 h1 => by rw [wrap_u64]; omega) 8 (by decide) (y % 18446744073709551616 / 1099511627776) (by omega) (by omega)
 rw [show (2 : Int) ^ 8 - 1 = 255 by decide, show (2 : Int) ^ 8 = 256 by decide] at h
 rw [h]; omega
def Bys (c : List Int) : Prop := c.length ≤ 1048576 ∧ ∀ x ∈ c, 0 ≤ x ∧ x < 256
theorem bys_of {c : List Int} (hl : c.length ≤ 1048576) (h : ∀ x ∈ c, (Lit.int .u8 x).wf = true) : Bys c := by
 refine ⟨hl, fun x hx => ?_⟩
 have := h x hx
 simp [Lit.wf, IntKind.min, IntKind.max, IntKind.bits, IntKind.signed] at this
 omega
theorem bindE {α β : Type} {x : Option α} {f : α → Option β} {a : α} {r : Option β} (h : x = some a) (h2 : f a = r) : x.bind f = r := by rw [h]; exact h2
theorem next_any {c : List Int} (hc : Bys c) (a s : Int) (h0 : 0 ≤ a) (h1 : a ≤ 4000000000000000000) : ∃ r s', spec_l1Cur_next.f c a s = some (r, a + 1, s') ∧ 0 ≤ r ∧ r < 256 := by
 have hl := hc.1
 unfold spec_l1Cur_next.f
 rw [w64 (x := a + 1) (by omega) (by omega)]
 by_cases h : a < (c.length : Int)
 ·have hm := hc.2 _ (rd_mem c a h0 h)
  rw [if_pos h, if_pos h0, if_pos (by omega), w64 (x := rd c a) (by omega) (by omega)]
  exact ⟨_, _, rfl, hm.1, hm.2⟩
 ·rw [if_neg h, if_neg (by omega)]
  refine ⟨_, _, rfl, ?_⟩
  have hb := and255 (IntKind.u64.wrap (IntKind.u64.wrap (s * 6364136223846793005)) + 1442695040888963407)
  rw [w64 (by omega) (by omega)]
  exact hb
theorem pick_any {c : List Int} (hc : Bys c) (a s n : Int) (h0 : 0 ≤ a) (h1 : a ≤ 4000000000000000000) (hn : 1 ≤ n) (hn2 : n ≤ 200) :
  ∃ r a' s', spec_l1Cur_pick.f c a s n = some (r, a', s') ∧ 0 ≤ r ∧ r < n ∧ a ≤ a' ∧ a' ≤ a + 1 := by
 unfold spec_l1Cur_pick.f
 by_cases h : n ≤ 1
 ·rw [if_pos h]; exact ⟨0, a, s, rfl, by omega, by omega, by omega, by omega⟩
 ·obtain ⟨r, s', e, hr0, hr1⟩ := next_any hc a s h0 h1
  rw [if_neg h, e, Option.bind_some, if_neg (by omega), if_neg (by omega)]
  refine ⟨Int.tmod r n, a + 1, s', rfl, ?_, ?_, by omega, by omega⟩
  ·exact Int.tmod_nonneg _ hr0
  ·exact Int.tmod_lt_of_pos _ (by omega)
theorem one_any {c : List Int} (hc : Bys c) (a s n : Int) (h0 : 0 ≤ a) (h1 : a ≤ 4000000000000000000) (hn : 1 ≤ n) (hn2 : n ≤ 200) :
  ∃ r a' s', spec_l1Cur_one.f c a s n = some (r, a', s') ∧ a ≤ a' ∧ a' ≤ a + 1 := by
 obtain ⟨r, a', s', e, _, _, h2, h3⟩ := pick_any hc a s n h0 h1 hn hn2
 unfold spec_l1Cur_one.f
 rw [e, Option.bind_some]
 exact ⟨_, _, _, rfl, h2, h3⟩
theorem size_push1 (t : ByteArray) (b : UInt8) : (t ++ (⟨#[b]⟩ : ByteArray)).size = t.size + 1 := by rw [ByteArray.size_append]; rfl
theorem sure_l {c : List Int} (hc : Bys c) (n : Int) (hn0 : 0 ≤ n) (hn : n ≤ 6) (d : Nat) : ∀ (t : ByteArray) (o lf i a s : Int), 0 ≤ i → i ≤ 2 * n → 2 * n - i ≤ d → (t.size : Int) = i → -i ≤ o → o ≤ i →
  0 ≤ lf → lf ≤ n → 0 ≤ a → a + (2 * n - i) ≤ 4000000000000000000 →
  ∃ p a' s', (∃ K, ∀ k, K ≤ k → spec_l1Cur_sure.l0 k n t o lf i c a s = some ((p, a', s'))) ∧ p.length ≤ 12 ∧ a ≤ a' ∧ a' ≤ a + (2 * n - i) := by
 have fin : ∀ (t : ByteArray) (o lf i a s : Int), i = 2 * n → (t.size : Int) = i → ∃ p a' s', (∃ K, ∀ k, K ≤ k → spec_l1Cur_sure.l0 k n t o lf i c a s = some ((p, a', s'))) ∧ p.length ≤ 12 ∧ a ≤ a' ∧ a' ≤ a + (2 * n - i) := by
  intro t o lf i a s hi ht
  obtain ⟨K, h⟩ := ahParse_any t (by omega)
  refine ⟨_, a, s, ev_rs K fun m hm => ?_, parsed_length t, by omega, by omega⟩
  rw [← parsed] at h
  simp (disch := omega) only [spec_l1Cur_sure.l0, if_neg, w64, h m hm, Option.bind_some]
 induction d with
 | zero => intro t o lf i a s hi0 hi hd ht ho1 ho2 hl0 hl1 ha hb; exact fin t o lf i a s (by omega) ht
 | succ d ih =>
  intro t o lf i a s hi0 hi hd ht ho1 ho2 hl0 hl1 ha hb
  by_cases hlt : i < 2 * n
  ·by_cases hp : lf > 0
   ·by_cases hz : o = 0
    ·obtain ⟨p, a', s', ⟨K, h⟩, q1, q2, q3⟩ := ih (t ++ (⟨#[40]⟩ : ByteArray)) (o + 1) (lf - 1) (i + 1) a s (by omega) (by omega) (by omega) (by rw [size_push1]; omega) (by omega) (by omega) (by omega) (by omega) ha (by omega)
     refine ⟨p, a', s', ev_rs K fun m hm => ?_, q1, q2, by omega⟩
     simp (disch := omega) only [spec_l1Cur_sure.l0, if_pos, w64]
     exact h m hm
    ·obtain ⟨b, a1, s1, e, q4, q5⟩ := one_any hc a s 2 ha (by omega) (by omega) (by omega)
     cases b with
     | true =>
      obtain ⟨p, a', s', ⟨K, h⟩, q1, q2, q3⟩ := ih (t ++ (⟨#[40]⟩ : ByteArray)) (o + 1) (lf - 1) (i + 1) a1 s1 (by omega) (by omega) (by omega) (by rw [size_push1]; omega) (by omega) (by omega) (by omega) (by omega) (by omega) (by omega)
      refine ⟨p, a', s', ev_rs K fun m hm => ?_, q1, by omega, by omega⟩
      simp (disch := omega) only [spec_l1Cur_sure.l0, if_pos, if_neg, w64, e, Option.bind_some]
      exact h m hm
     | false =>
      obtain ⟨p, a', s', ⟨K, h⟩, q1, q2, q3⟩ := ih (t ++ (⟨#[41]⟩ : ByteArray)) (o - 1) lf (i + 1) a1 s1 (by omega) (by omega) (by omega) (by rw [size_push1]; omega) (by omega) (by omega) (by omega) (by omega) (by omega) (by omega)
      refine ⟨p, a', s', ev_rs K fun m hm => ?_, q1, by omega, by omega⟩
      simp (disch := omega) only [spec_l1Cur_sure.l0, if_pos, if_neg, w64, e, Option.bind_some, Bool.false_eq_true, if_false]
      exact h m hm
   ·obtain ⟨p, a', s', ⟨K, h⟩, q1, q2, q3⟩ := ih (t ++ (⟨#[41]⟩ : ByteArray)) (o - 1) lf (i + 1) a s (by omega) (by omega) (by omega) (by rw [size_push1]; omega) (by omega) (by omega) (by omega) (by omega) ha (by omega)
    refine ⟨p, a', s', ev_rs K fun m hm => ?_, q1, q2, by omega⟩
    simp (disch := omega) only [spec_l1Cur_sure.l0, if_pos, if_neg, w64]
    exact h m hm
  ·exact fin t o lf i a s (by omega) ht
theorem sure_any {c : List Int} (hc : Bys c) (a s n : Int) (h0 : 0 ≤ a) (h1 : a ≤ 3000000000000000000) (hn0 : 0 ≤ n) (hn : n ≤ 6) :
  ∃ p a' s', (∃ K, ∀ k, K ≤ k → spec_l1Cur_sure.f k c a s n = some ((p, a', s'))) ∧ p.length ≤ 12 ∧ a ≤ a' ∧ a' ≤ a + 12 := by
 obtain ⟨p, a', s', h, q1, q2, q3⟩ := sure_l hc n hn0 hn (2 * n).toNat (⟨#[]⟩ : ByteArray) 0 n 0 a s (by omega) (by omega) (by omega) rfl (by omega) (by omega) hn0 (by omega) h0 (by omega)
 exact ⟨p, a', s', h, q1, q2, by omega⟩
theorem flat_draw : ((List.range 8).all fun n => match spec_ahFlat.f 60 (n : Nat) with | some l => decide (l.length ≤ 14) | none => false) = true := by decide +kernel
theorem rainbow_draw : ((List.range 8).all fun n => match spec_ahRainbow.f 60 (n : Nat) with | some l => decide (l.length ≤ 14) | none => false) = true := by decide +kernel
theorem flat_d (n : Int) (h0 : 0 ≤ n) (h : n < 8) : ∃ l, (∃ K, ∀ k, K ≤ k → spec_ahFlat.f k n = some (l)) ∧ l.length ≤ 14 := by
 have q := List.all_eq_true.1 flat_draw n.toNat (List.mem_range.2 (by omega))
 rw [show ((n.toNat : Nat) : Int) = n by omega] at q
 cases e : spec_ahFlat.f 60 n with
 | none => rw [e] at q; cases q
 | some l => rw [e] at q; exact ⟨l, ⟨60, fun k hk => at_rounds (fun k => spec_ahFlat.mono n k) hk e⟩, of_decide_eq_true q⟩
theorem rainbow_d (n : Int) (h0 : 0 ≤ n) (h : n < 8) : ∃ l, (∃ K, ∀ k, K ≤ k → spec_ahRainbow.f k n = some (l)) ∧ l.length ≤ 14 := by
 have q := List.all_eq_true.1 rainbow_draw n.toNat (List.mem_range.2 (by omega))
 rw [show ((n.toNat : Nat) : Int) = n by omega] at q
 cases e : spec_ahRainbow.f 60 n with
 | none => rw [e] at q; cases q
 | some l => rw [e] at q; exact ⟨l, ⟨60, fun k hk => at_rounds (fun k => spec_ahRainbow.mono n k) hk e⟩, of_decide_eq_true q⟩
theorem system_any {c : List Int} (hc : Bys c) (a s n : Int) (h0 : 0 ≤ a) (h1 : a ≤ 2000000000000000000) (hn0 : 0 ≤ n) (hn : n ≤ 6) :
  ∃ p a' s', (∃ K, ∀ k, K ≤ k → spec_l1Cur_system.f k c a s n = some ((p, a', s'))) ∧ p.length ≤ 14 ∧ a ≤ a' ∧ a' ≤ a + 20 := by
 obtain ⟨r1, a1, s1, e1, q1, q2, q3, q4⟩ := pick_any hc a s (n + 1) h0 (by omega) (by omega) (by omega)
 obtain ⟨p, a2, s2, ⟨K2, e2⟩, q5, q6, q7⟩ := sure_any hc a1 s1 r1 (by omega) (by omega) q1 (by omega)
 obtain ⟨r3, a3, s3, e3, q8, q9, q10, q11⟩ := pick_any hc a2 s2 16 (by omega) (by omega) (by omega) (by omega)
 have w1 : wrap64 (n + 1) = n + 1 := w64 (by omega) (by omega)
 by_cases c0 : r3 = 0
 ·by_cases hp : (p.length : Int) > 0
  ·obtain ⟨r4, a4, s4, e4, q12, q13, q14, q15⟩ := pick_any hc a3 s3 (p.length : Int) (by omega) (by omega) (by omega) (by omega)
   obtain ⟨r5, a5, s5, e5, q16, q17, q18, q19⟩ := pick_any hc a4 s4 ((p.length : Int) + 2) (by omega) (by omega) (by omega) (by omega)
   refine ⟨p.set r4.toNat (r5 - 1), a5, s5, ⟨K2, fun k hk => ?_⟩, by simp; omega, by omega, by omega⟩
   unfold spec_l1Cur_system.f
   rw [w1]
   refine bindE e1 ?_
   dsimp only
   refine bindE (e2 k (by omega)) ?_
   dsimp only
   refine bindE e3 ?_
   dsimp only
   rw [if_pos c0, if_pos hp]
   refine bindE e4 ?_
   dsimp only
   rw [w64 (x := (p.length : Int) + 2) (by omega) (by omega)]
   refine bindE e5 ?_
   dsimp only
   rw [if_pos q12, if_pos q13, w64 (by omega) (by omega)]
  ·refine ⟨p, a3, s3, ⟨K2, fun k hk => ?_⟩, by omega, by omega, by omega⟩
   unfold spec_l1Cur_system.f
   rw [w1]
   refine bindE e1 ?_
   dsimp only
   refine bindE (e2 k (by omega)) ?_
   dsimp only
   refine bindE e3 ?_
   dsimp only
   rw [if_pos c0, if_neg hp]
 ·by_cases c1 : r3 = 1
  ·refine ⟨p ++ [(p.length : Int) + 1], a3, s3, ⟨K2, fun k hk => ?_⟩, by simp; omega, by omega, by omega⟩
   unfold spec_l1Cur_system.f
   rw [w1]
   refine bindE e1 ?_
   dsimp only
   refine bindE (e2 k (by omega)) ?_
   dsimp only
   refine bindE e3 ?_
   dsimp only
   rw [if_neg c0, if_pos c1, if_pos (by omega), w64 (by omega) (by omega)]
  ·by_cases c2 : r3 = 2
   ·obtain ⟨r4, a4, s4, e4, q12, q13, q14, q15⟩ := pick_any hc a3 s3 2 (by omega) (by omega) (by omega) (by omega)
    obtain ⟨l, ⟨K3, e5⟩, q16⟩ := flat_d (6 + r4) (by omega) (by omega)
    refine ⟨l, a4, s4, ⟨K2 + K3, fun k hk => ?_⟩, q16, by omega, by omega⟩
    unfold spec_l1Cur_system.f
    rw [w1]
    refine bindE e1 ?_
    dsimp only
    refine bindE (e2 k (by omega)) ?_
    dsimp only
    refine bindE e3 ?_
    dsimp only
    rw [if_neg c0, if_neg c1, if_pos c2]
    refine bindE e4 ?_
    dsimp only
    rw [w64 (x := 6 + r4) (by omega) (by omega)]
    exact bindE (e5 k (by omega)) rfl
   ·by_cases c3 : r3 = 3
    ·obtain ⟨r4, a4, s4, e4, q12, q13, q14, q15⟩ := pick_any hc a3 s3 7 (by omega) (by omega) (by omega) (by omega)
     obtain ⟨l, ⟨K3, e5⟩, q16⟩ := rainbow_d r4 (by omega) (by omega)
     refine ⟨l, a4, s4, ⟨K2 + K3, fun k hk => ?_⟩, q16, by omega, by omega⟩
     unfold spec_l1Cur_system.f
     rw [w1]
     refine bindE e1 ?_
     dsimp only
     refine bindE (e2 k (by omega)) ?_
     dsimp only
     refine bindE e3 ?_
     dsimp only
     rw [if_neg c0, if_neg c1, if_neg c2, if_pos c3]
     refine bindE e4 ?_
     dsimp only
     exact bindE (e5 k (by omega)) rfl
    ·refine ⟨p, a3, s3, ⟨K2, fun k hk => ?_⟩, by omega, by omega, by omega⟩
     unfold spec_l1Cur_system.f
     rw [w1]
     refine bindE e1 ?_
     dsimp only
     refine bindE (e2 k (by omega)) ?_
     dsimp only
     refine bindE e3 ?_
     dsimp only
     rw [if_neg c0, if_neg c1, if_neg c2, if_neg c3]
theorem drawIs_any {c : List Int} (hc : Bys c) : ∃ p, (∃ K, ∀ k, K ≤ k → spec_DrawIsSystem.f k c = some (p)) ∧ p.length ≤ 14 := by
 obtain ⟨p, a1, s1, ⟨K1, e1⟩, q1, q2, q3⟩ := system_any hc 0 0 6 (by omega) (by omega) (by omega) (by omega)
 refine ⟨p, ⟨K1, fun k hk => ?_⟩, q1⟩
 unfold spec_DrawIsSystem.f spec_DrawIsSystem_m.f
 exact bindE (bindE (e1 k hk) rfl) rfl
structure Chain (T B : Int → Int) (a : Int) (out : List Int) (i : Int) : Prop where
 even : out.length % 2 = 0
 top : ∀ k : Nat, k % 2 = 0 → k + 1 < out.length → rd out ((k + 1 : Nat) : Int) = T (rd out (k : Nat))
 bot : ∀ k : Nat, k % 2 = 0 → k + 2 < out.length → rd out ((k + 2 : Nat) : Int) = B (rd out ((k + 1 : Nat) : Int))
 first : out = [] → i = a
 head : out ≠ [] → rd out 0 = a
 next : ∀ k : Nat, k % 2 = 0 → k + 2 = out.length → i = B (rd out ((k + 1 : Nat) : Int))
theorem rd_app2 (out : List Int) (x y : Int) (k : Nat) : rd (out ++ [x, y]) (k : Nat) = if k < out.length then rd out (k : Nat) else if k = out.length then x else if k = out.length + 1 then y else 0 := by
 unfold rd
 rw [Int.toNat_natCast, List.getD_eq_getElem?_getD, List.getD_eq_getElem?_getD]
 by_cases h : k < out.length
 ·rw [if_pos h, List.getElem?_append_left h]
 ·rw [if_neg h, List.getElem?_append_right (by omega)]
  by_cases h1 : k = out.length
  ·rw [if_pos h1, h1, Nat.sub_self]; rfl
  ·rw [if_neg h1]
   by_cases h2 : k = out.length + 1
   ·rw [if_pos h2, h2, Nat.add_sub_cancel_left]; rfl
   ·rw [if_neg h2, List.getElem?_eq_none (by simp; omega)]; rfl
theorem Chain.push {T B : Int → Int} {a : Int} {out : List Int} {i : Int} (h : Chain T B a out i) : Chain T B a (out ++ [i, T i]) (B (T i)) := by
 have hl : (out ++ [i, T i]).length = out.length + 2 := by simp
 have he := h.even
 constructor
 ·rw [hl]; omega
 ·intro k h0 h1
  rw [hl] at h1
  rw [rd_app2, rd_app2]
  by_cases c : k + 1 < out.length
  ·rw [if_pos c, if_pos (by omega)]; exact h.top k h0 c
  ·rw [if_neg c, if_neg (by omega), if_pos (by omega), if_neg (by omega), if_pos (by omega)]
 ·intro k h0 h1
  rw [hl] at h1
  rw [rd_app2, rd_app2]
  by_cases c : k + 2 < out.length
  ·rw [if_pos c, if_pos (by omega)]; exact h.bot k h0 c
  ·rw [if_neg c, if_pos (by omega), if_pos (by omega)]; exact h.next k h0 (by omega)
 ·intro h0; simp at h0
 ·intro _
  have e := rd_app2 out i (T i) 0
  rw [show (((0 : Nat) : Int)) = 0 from rfl] at e
  rw [e]
  by_cases c : 0 < out.length
  ·rw [if_pos c]; exact h.head (by intro h0; rw [h0] at c; simp at c)
  ·rw [if_neg c, if_pos (by omega)]; exact h.first (List.eq_nil_of_length_eq_zero (by omega))
 ·intro k h0 h1
  rw [hl] at h1
  rw [rd_app2, if_neg (by omega), if_neg (by omega), if_pos (by omega)]
structure Round (T B : Int → Int) (a : Int) (r : List Int) : Prop where
 even : r.length % 2 = 0
 pos : 0 < r.length
 top : ∀ k : Nat, k % 2 = 0 → k + 1 < r.length → rd r ((k + 1 : Nat) : Int) = T (rd r (k : Nat))
 bot : ∀ k : Nat, k % 2 = 0 → k + 1 < r.length → rd r (((k + 2) % r.length : Nat) : Int) = B (rd r ((k + 1 : Nat) : Int))
 head : rd r 0 = a
theorem wy_round (T B : Int → Int) (a : Int) (d : Nat) : ∀ (out : List Int) (i : Int) (r : List Int), Chain T B a out i → wy T B a d out i = some r → Round T B a r := by
 induction d with
 | zero => intro out i r _ h; cases h
 | succ d ih =>
  intro out i r hc h
  unfold wy at h
  have hp := hc.push
  split at h
  ·rename_i e
   obtain rfl := Option.some.inj h
   have hl : (out ++ [i, T i]).length = out.length + 2 := by simp
   have hh := hp.head (by simp)
   refine ⟨hp.even, by rw [hl]; omega, hp.top, fun k h0 h1 => ?_, hh⟩
   by_cases c : k + 2 < (out ++ [i, T i]).length
   ·rw [Nat.mod_eq_of_lt c]; exact hp.bot k h0 c
   ·have e2 : k + 2 = (out ++ [i, T i]).length := by have := hp.even; omega
    rw [e2, Nat.mod_self]
    have := hp.next k h0 e2
    rw [e] at this
    exact hh.trans this
  ·exact ih _ _ _ hp h
theorem wayL_round {l m : List Int} (h : Two l m) {a : Int} (a0 : 0 ≤ a) (a1 : a < l.length) : Round (rd l) (rd m) a (wayL l m a) := by
 refine wy_round (rd l) (rd m) a l.length [] a _ ⟨rfl, ?_, ?_, fun _ => rfl, fun h => absurd rfl h, ?_⟩ (wayL_eq h a0 a1)
 ·intro k _ h; simp at h
 ·intro k _ h; simp at h
 ·intro k _ h; simp at h
theorem pair_d {c : List Int} (hc : Bys c) (a s n : Int) (h0 : 0 ≤ a) (h1 : a ≤ 1000) (hn0 : 0 ≤ n) (hn : n ≤ 6) :
  ∃ p q a' s', (∃ K, ∀ k, K ≤ k → spec_l1Cur_pair.f k c a s n = some ((p, q, a', s'))) ∧ p.length ≤ 14 ∧ q.length ≤ 14 ∧ a ≤ a' ∧ a' ≤ a + 100 := by
 obtain ⟨r1, a1, s1, e1, q1, q2, q3, q4⟩ := pick_any hc a s (n + 1) h0 (by omega) (by omega) (by omega)
 obtain ⟨p, a2, s2, ⟨K2, e2⟩, q5, q6, q7⟩ := sure_any hc a1 s1 r1 (by omega) (by omega) q1 (by omega)
 obtain ⟨q, a3, s3, ⟨K3, e3⟩, q8, q9, q10⟩ := sure_any hc a2 s2 r1 (by omega) (by omega) q1 (by omega)
 obtain ⟨r4, a4, s4, e4, q11, q12, q13, q14⟩ := pick_any hc a3 s3 16 (by omega) (by omega) (by omega) (by omega)
 have w1 : wrap64 (n + 1) = n + 1 := w64 (by omega) (by omega)
 have go : ∀ (k : Nat) (R : Option (List Int × List Int × Int × Int)), K2 + K3 ≤ k → (if r4 = 0 then ((spec_l1Cur_system.f k c a4 s4 n).bind fun b => (some (b.1, q, b.2.1, b.2.2))) else (if r4 = 1 then ((spec_l1Cur_system.f k c a4 s4 n).bind fun b => (some (p, b.1, b.2.1, b.2.2))) else (if r4 = 2 then ((spec_ahRainbow.f k r1).bind fun t => ((spec_ahFlat.f k r1).bind fun u => (some (t, u, a4, s4)))) else (if r4 = 3 then ((spec_l1Own.f p).bind fun t => (some (p, t, a4, s4))) else (some (p, q, a4, s4)))))) = R → spec_l1Cur_pair.f k c a s n = R := by
  intro k R hk h
  unfold spec_l1Cur_pair.f
  rw [w1]
  refine bindE e1 ?_
  dsimp only
  refine bindE (e2 k (by omega)) ?_
  dsimp only
  refine bindE (e3 k (by omega)) ?_
  dsimp only
  refine bindE e4 ?_
  exact h
 by_cases c0 : r4 = 0
 ·obtain ⟨p', a5, s5, ⟨K5, e5⟩, q15, q16, q17⟩ := system_any hc a4 s4 n (by omega) (by omega) hn0 hn
  refine ⟨p', q, a5, s5, ⟨K2 + K3 + K5, fun k hk => go k _ (by omega) ?_⟩, q15, by omega, by omega, by omega⟩
  rw [if_pos c0]
  exact bindE (e5 k (by omega)) rfl
 ·by_cases c1 : r4 = 1
  ·obtain ⟨p', a5, s5, ⟨K5, e5⟩, q15, q16, q17⟩ := system_any hc a4 s4 n (by omega) (by omega) hn0 hn
   refine ⟨p, p', a5, s5, ⟨K2 + K3 + K5, fun k hk => go k _ (by omega) ?_⟩, by omega, q15, by omega, by omega⟩
   rw [if_neg c0, if_pos c1]
   exact bindE (e5 k (by omega)) rfl
  ·by_cases c2 : r4 = 2
   ·obtain ⟨t, ⟨K5, e5⟩, q15⟩ := rainbow_d r1 (by omega) (by omega)
    obtain ⟨u, ⟨K6, e6⟩, q16⟩ := flat_d r1 (by omega) (by omega)
    refine ⟨t, u, a4, s4, ⟨K2 + K3 + K5 + K6, fun k hk => go k _ (by omega) ?_⟩, q15, q16, by omega, by omega⟩
    rw [if_neg c0, if_neg c1, if_pos c2]
    refine bindE (e5 k (by omega)) ?_
    exact bindE (e6 k (by omega)) rfl
   ·by_cases c3 : r4 = 3
    ·refine ⟨p, p, a4, s4, ⟨K2 + K3, fun k hk => go k _ (by omega) ?_⟩, by omega, by omega, by omega, by omega⟩
     rw [if_neg c0, if_neg c1, if_neg c2, if_pos c3]
     have e : spec_l1Own.f p = some p := by
      simp only [spec_l1Own.f, Option.bind_some, List.nil_append]
      rw [if_pos (by simp; omega)]
     exact bindE e rfl
    ·refine ⟨p, q, a4, s4, ⟨K2 + K3, fun k hk => go k _ (by omega) ?_⟩, by omega, by omega, by omega, by omega⟩
     rw [if_neg c0, if_neg c1, if_neg c2, if_neg c3]
theorem drawCurves_any {c : List Int} (hc : Bys c) : ∃ p q, (∃ K, ∀ k, K ≤ k → spec_DrawCurvesOf.f k c = some ((p, q))) ∧ p.length ≤ 14 ∧ q.length ≤ 14 := by
 obtain ⟨p, q, a1, s1, ⟨K1, e1⟩, q1, q2, _⟩ := pair_d hc 0 0 6 (by omega) (by omega) (by omega) (by omega)
 refine ⟨p, q, ⟨K1, fun k hk => ?_⟩, q1, q2⟩
 unfold spec_DrawCurvesOf.f spec_DrawIsPair.f spec_DrawIsPair_m.f
 exact bindE (bindE (a := (p, q, a1, s1)) (bindE (e1 k hk) rfl) rfl) rfl
theorem drawWay_any {c : List Int} (hc : Bys c) : ∃ p q i, (∃ K, ∀ k, K ≤ k → spec_DrawWayFrom.f k c = some ((p, q, i))) ∧ p.length ≤ 14 ∧ q.length ≤ 14 := by
 obtain ⟨p, q, a1, s1, ⟨K1, e1⟩, q1, q2, q3, q4⟩ := pair_d hc 0 0 6 (by omega) (by omega) (by omega) (by omega)
 obtain ⟨r2, a2, s2, e2, q5, q6, q7, q8⟩ := pick_any hc a1 s1 ((p.length : Int) + 1) (by omega) (by omega) (by omega) (by omega)
 obtain ⟨r3, a3, s3, e3, q9, q10, q11, q12⟩ := pick_any hc a2 s2 9 (by omega) (by omega) (by omega) (by omega)
 refine ⟨p, q, wrap64 (r2 - (wrap64 (Int.tdiv r3 8))), ⟨K1, fun k hk => ?_⟩, q1, q2⟩
 unfold spec_DrawWayFrom.f spec_DrawWayFrom_m.f
 refine bindE (a := (p, q, wrap64 (r2 - (wrap64 (Int.tdiv r3 8))), a3, s3)) (bindE (e1 k hk) ?_) rfl
 dsimp only
 rw [w64 (x := (p.length : Int) + 1) (by omega) (by omega)]
 refine bindE e2 ?_
 dsimp only
 exact bindE e3 rfl
theorem drawSign_any {c : List Int} (hc : Bys c) : ∃ p, (∃ K, ∀ k, K ≤ k → spec_DrawSignOf.f k c = some (p)) ∧ p.length ≤ 14 := by
 obtain ⟨p, ⟨K1, e1⟩, q1⟩ := drawIs_any hc
 exact ⟨p, ⟨K1, fun k hk => by unfold spec_DrawSignOf.f; exact bindE (e1 k hk) rfl⟩, q1⟩
theorem sameRows_l (xs : List (List Int)) (hs : Short 100 xs) (hl : xs.length ≤ 1000) : ∀ (d i : Nat), i + d = xs.length → (∃ K, ∀ k, K ≤ k → laws_sSameRows.l0 k xs xs (xs.length : Int) (i : Int) = some (true))
 | 0, i, hd => ev_rs 0 fun m _ => by
  rw [laws_sSameRows.l0, if_neg (by omega)]
 | d + 1, i, hd => by
  obtain ⟨K1, h1⟩ := sSame_any (rd_L2 xs (i : Int)) (by have := hs.at i (by omega); omega)
  obtain ⟨K2, h2⟩ := sameRows_l xs hs hl d (i + 1) (by omega)
  refine ev_rs (K1 + K2) fun m hm => ?_
  rw [laws_sSameRows.l0, if_pos (by omega), if_pos (by omega), if_pos (by omega), if_pos (by omega)]
  refine bindE (h1 m (by omega)) ?_
  rw [if_pos rfl, w64 (by omega) (by omega)]
  have := h2 m (by omega)
  rwa [show (((i + 1 : Nat)) : Int) = (i : Int) + 1 by omega] at this
theorem sameRows_any (xs : List (List Int)) (hs : Short 100 xs) (hl : xs.length ≤ 1000) : (∃ K, ∀ k, K ≤ k → laws_sSameRows.f k xs xs = some (true)) := by
 obtain ⟨K, hK⟩ := sameRows_l xs hs hl xs.length 0 (by omega)
 exact ⟨K, fun k hk => by unfold laws_sSameRows.f; rw [if_pos rfl]; exact hK k hk⟩
def sgn (l : List Int) : Int := (spec_meSign.f 100 l).getD 0
theorem sgn_table : ((List.range 7).all fun n => (Pl.sysList n).all fun p => (spec_SignOf.f 300 p == some (sgn p, true)) && (impl_SignOf.f 300 p == some (sgn p, true))) = true := by decide +kernel
noncomputable def signR (l : List Int) : Int × Bool := if sysB l = true then (sgn l, true) else (0, false)
theorem implSign_any (l : List Int) (hl : l.length ≤ 1048576) : (∃ K, ∀ k, K ≤ k → impl_SignOf.f k l = some (signR l)) := by
 unfold signR
 by_cases h : sysB l = true
 ·have t := of_table (P := fun p => (spec_SignOf.f 300 p == some (sgn p, true)) && (impl_SignOf.f 300 p == some (sgn p, true))) sgn_table h
  rw [Bool.and_eq_true, beq_iff_eq, beq_iff_eq] at t
  rw [if_pos h]
  exact ⟨300, fun k hk => at_rounds (g := fun k => impl_SignOf.f k l) (fun k => impl_SignOf.mono l k) hk t.2⟩
 ·obtain ⟨K, hK⟩ := IsSystem_any l (by omega)
  rw [if_neg h]
  replace h := Bool.eq_false_iff.2 h
  rw [h] at hK
  exact ⟨K, fun k hk => by unfold impl_SignOf.f; refine bindE (hK k hk) ?_; rw [if_neg (by decide)]⟩
theorem specSign_any (l : List Int) (hl : l.length ≤ 1048576) : (∃ K, ∀ k, K ≤ k → spec_SignOf.f k l = some (signR l)) := by
 unfold signR
 by_cases h : sysB l = true
 ·have t := of_table (P := fun p => (spec_SignOf.f 300 p == some (sgn p, true)) && (impl_SignOf.f 300 p == some (sgn p, true))) sgn_table h
  rw [Bool.and_eq_true, beq_iff_eq, beq_iff_eq] at t
  rw [if_pos h]
  exact ⟨300, fun k hk => at_rounds (g := fun k => spec_SignOf.f k l) (fun k => spec_SignOf.mono l k) hk t.1⟩
 ·obtain ⟨K, hK⟩ := ahGood_any l (by omega)
  rw [if_neg h]
  replace h := Bool.eq_false_iff.2 h
  rw [h] at hK
  exact ⟨K, fun k hk => by unfold spec_SignOf.f; refine bindE (hK k hk) ?_; rw [if_neg (by decide)]⟩
def grpL (cs : List Int) : List (List Int) := ((spec_CurvesOf.l0 14 [] cs (cs.length : Int) 0).getD ([], false)).1
def rowOk (l m cs : List Int) (R : List (List Int)) (k : Nat) : Bool :=
 decide (0 < (rd_L2 R (k : Nat)).length) && ((rd_L2 R (k : Nat)).all fun y => decide (0 ≤ y) && decide (y < l.length) && (rd cs y == (k : Nat)) && (rd cs (rd l y) == (k : Nat)) && (rd cs (rd m y) == (k : Nat))) &&
 decide ((wayL l m (rd (rd_L2 R (k : Nat)) 0)).length = (rd_L2 R (k : Nat)).length) && (decide (k = 0) || decide (rd (rd_L2 R ((k : Int) - 1)) 0 < rd (rd_L2 R (k : Nat)) 0) && decide (0 < (rd_L2 R ((k : Int) - 1)).length))
def cwOk (l m : List Int) : Bool :=
 decide (((grpL (coloursOf l m).1).length : Int) = (coloursOf l m).2) && decide (((grpL (coloursOf l m).1).map List.length).sum = l.length) && ((List.range (grpL (coloursOf l m).1).length).all fun k => rowOk l m (coloursOf l m).1 (grpL (coloursOf l m).1) k) &&
 ((Int.tmod ((l.length : Int) / 2 - (coloursOf l m).2) 2 == 0) == (sgn l == sgn m))
theorem cw_tab : ((List.range 6).all fun n => (Pl.sysList n).all fun l => (Pl.sysList n).all fun m => cwOk l m) = true := by decide +kernel
theorem cw_tab6_0 : (((Pl.sysList 6).drop (11 * 0)).take 11).all (fun l => (Pl.sysList 6).all fun m => cwOk l m) = true := by decide +kernel
theorem cw_tab6_1 : (((Pl.sysList 6).drop (11 * 1)).take 11).all (fun l => (Pl.sysList 6).all fun m => cwOk l m) = true := by decide +kernel
theorem cw_tab6_2 : (((Pl.sysList 6).drop (11 * 2)).take 11).all (fun l => (Pl.sysList 6).all fun m => cwOk l m) = true := by decide +kernel
end Go.Proofs.Ytfencncopkeobaa.Pure
