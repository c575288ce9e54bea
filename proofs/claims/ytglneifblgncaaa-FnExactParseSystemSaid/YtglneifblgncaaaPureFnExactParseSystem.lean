/- The law FnExactParseSystem answers true at every input that its guards let in. -/
import Derived.Test.YtglneifblgncaaaPFnExactParseSystemx2
namespace Go.Proofs.Ytglneifblgncaaa.Pure
open Go.RowKit Go.Proofs.Ytglneifblgncaaa.PFnExactParseSystem Go.Proofs.YtglneifblgncaaaW.PrintWords Go.Proofs.YtglneifblgncaaaW.PrintLast
set_option linter.unusedVariables false
set_option linter.unusedSimpArgs false

/-! ### Words of my own -/
theorem w64 {x : Int} (h1 : -9223372036854775808 ≤ x) (h2 : x < 9223372036854775808) : wrap64 x = x := by unfold wrap64; omega
theorem ev_rs {α : Type} {g : Nat → Option α} {r : α} (K : Nat) (h : ∀ m, K ≤ m → g (m + 1) = some r) : ∃ K, ∀ k, K ≤ k → g k = some r := by
  refine ⟨K + 1, fun k hk => ?_⟩
  obtain ⟨m, rfl⟩ : ∃ m, k = m + 1 := ⟨k - 1, by omega⟩
  exact h m (by omega)
noncomputable def tf (P : Prop) : Bool := @decide P (Classical.propDecidable P)
theorem tf_t {P : Prop} (h : P) : tf P = true := by unfold tf; simp [h]
theorem tf_f {P : Prop} (h : ¬ P) : tf P = false := by unfold tf; simp [h]
theorem tf_iff {P : Prop} : tf P = true ↔ P := by unfold tf; simp
theorem tf_c {P Q : Prop} (h : P ↔ Q) : tf P = tf Q := by rw [propext h]
theorem tf_d {P : Prop} [Decidable P] : tf P = decide P := by
  by_cases h : P
  · rw [tf_t h]; simp [h]
  · rw [tf_f h]; simp [h]
theorem rd_def (l : List Int) (i : Int) : rd l i = l.getD i.toNat 0 := rfl
theorem rd_set (l : List Int) (i j v : Int) (hi : 0 ≤ i) (hl : i < l.length) (hj : 0 ≤ j) : rd (l.set i.toNat v) j = if j = i then v else rd l j := by
  unfold rd
  simp only [List.getD_eq_getElem?_getD, List.getElem?_set]
  by_cases e : j = i
  · subst e
    rw [if_pos rfl, if_pos rfl, if_pos (by omega)]; rfl
  · rw [if_neg (by omega), if_neg e]
theorem rd_get (l : List Int) (i : Nat) (h : i < l.length) : rd l i = l[i] := by
  unfold rd
  rw [Int.toNat_natCast, List.getD_eq_getElem?_getD, List.getElem?_eq_getElem h]; rfl
theorem rd_ext {a b : List Int} (hl : a.length = b.length) (h : ∀ j : Int, 0 ≤ j → j < a.length → rd a j = rd b j) : a = b := by
  refine List.ext_getElem hl fun i h1 h2 => ?_
  have := h i (by omega) (by omega)
  rwa [rd_get a i h1, rd_get b i h2] at this
theorem rd_mem (l : List Int) (i : Int) (h0 : 0 ≤ i) (h : i < l.length) : rd l i ∈ l := by
  have e := rd_get l i.toNat (by omega)
  rw [show ((i.toNat : Nat) : Int) = i by omega] at e
  rw [e]; exact List.getElem_mem _

/-! ### laws.eqIntS, laws.toIntS -/
theorem eqIntS_l (a b : List Int) (hl : a.length = b.length) (hn : a.length < 4611686018427387904) (d : Nat) : ∀ i : Int, 0 ≤ i → (a.length : Int) - i ≤ d →
    (∃ K, ∀ k, K ≤ k → laws_eqIntS.l0 k a b i = some (tf (∀ j : Int, i ≤ j → j < a.length → rd a j = rd b j))) := by
  induction d with
  | zero =>
    intro i h0 hd
    refine ev_rs 0 fun m _ => ?_
    simp (disch := omega) only [laws_eqIntS.l0, if_neg]
    rw [tf_t]
    intro j h1 h2; omega
  | succ d ih =>
    intro i h0 hd
    by_cases hlt : i < (a.length : Int)
    · obtain ⟨K, ih⟩ := ih (i + 1) (by omega) (by omega)
      by_cases he : rd a i = rd b i
      · refine ev_rs K fun m hm => ?_
        simp (disch := omega) only [laws_eqIntS.l0, if_pos, w64]
        rw [ih m hm]
        congr 1
        refine tf_c ⟨fun h j h1 h2 => ?_, fun h j h1 h2 => h j (by omega) h2⟩
        by_cases e : j = i
        · rw [e]; exact he
        · exact h j (by omega) h2
      · refine ev_rs 0 fun m hm => ?_
        simp (disch := omega) only [laws_eqIntS.l0, if_pos]
        first | rw [if_neg he, tf_f] | rw [tf_f]
        exact fun h => he (h i (Int.le_refl _) hlt)
    · refine ev_rs 0 fun m _ => ?_
      simp (disch := omega) only [laws_eqIntS.l0, if_neg]
      rw [tf_t]
      intro j h1 h2; omega
theorem eqIntS_any (a b : List Int) (hn : a.length < 4611686018427387904) : (∃ K, ∀ k, K ≤ k → laws_eqIntS.f k a b = some (decide (a = b))) := by
  by_cases hl : a.length = b.length
  · obtain ⟨K, h⟩ := eqIntS_l a b hl hn a.length 0 (by omega) (by omega)
    refine ⟨K, fun k hk => ?_⟩
    unfold laws_eqIntS.f
    rw [if_pos (by omega), h k hk, ← tf_d]
    congr 1
    exact tf_c ⟨fun h => rd_ext hl fun j => h j, fun h j _ _ => by rw [h]⟩
  · refine ⟨0, fun k hk => ?_⟩
    unfold laws_eqIntS.f
    rw [if_neg (by omega)]
    congr 1
    exact (decide_eq_false fun h => hl (by rw [h])).symm

/-! ### laws.markIntS, laws.heldIntS -/
/-- The numbers from a on stand in a list from a place on. -/
def Runs (l : List Int) (a i : Int) : Prop := ∀ j : Int, i ≤ j → j < l.length → rd l j = a + (j - i)
theorem markIntS_l (d : Nat) : ∀ (x : List Int) (a i : Int), 0 ≤ i → 0 ≤ a → a + (x.length - i) < 1152921504606846976 → i ≤ x.length → (x.length : Int) < 1152921504606846976 → (x.length : Int) - i ≤ d →
    ∃ y, (∃ K, ∀ k, K ≤ k → laws_markIntS.l0 k x a i = some ((a + (x.length - i), y))) ∧ y.length = x.length ∧ Runs y a i ∧ ∀ j : Int, 0 ≤ j → j < i → rd y j = rd x j := by
  induction d with
  | zero =>
    intro x a i h0 ha hb hi hn hd
    refine ⟨x, ev_rs 0 fun m _ => ?_, rfl, fun j h1 h2 => by omega, fun j _ _ => rfl⟩
    simp (disch := omega) only [laws_markIntS.l0, if_neg]
    rw [show a + ((x.length : Int) - i) = a by omega]
  | succ d ih =>
    intro x a i h0 ha hb hi hn hd
    by_cases hlt : i < (x.length : Int)
    · obtain ⟨y, ⟨K, ih⟩, hl, hr, hk⟩ := ih (x.set i.toNat a) (a + 1) (i + 1) (by omega) (by omega) (by simp; omega) (by simp; omega) (by simpa using hn) (by simp; omega)
      refine ⟨y, ev_rs K fun m hm => ?_, by simpa using hl, fun j h1 h2 => ?_, fun j h1 h2 => ?_⟩
      · simp (disch := omega) only [laws_markIntS.l0, if_pos, w64]
        rw [ih m hm]
        rw [List.length_set, show a + 1 + ((x.length : Int) - (i + 1)) = a + (x.length - i) by omega]
      · by_cases e : j = i
        · rw [hk j (by omega) (by omega), rd_set x i j _ h0 hlt (by omega), if_pos e]; omega
        · rw [hr j (by omega) h2]; omega
      · rw [hk j h1 (by omega), rd_set x i j _ h0 hlt h1, if_neg (by omega)]
    · refine ⟨x, ev_rs 0 fun m _ => ?_, rfl, fun j h1 h2 => by omega, fun j _ _ => rfl⟩
      simp (disch := omega) only [laws_markIntS.l0, if_neg]
      rw [show a + ((x.length : Int) - i) = a by omega]
theorem heldIntS_l (d : Nat) : ∀ (x : List Int) (a i : Int), 0 ≤ i → 0 ≤ a → a + (x.length - i) < 1152921504606846976 → i ≤ x.length → (x.length : Int) < 1152921504606846976 → (x.length : Int) - i ≤ d → Runs x a i →
    (∃ K, ∀ k, K ≤ k → laws_heldIntS.l0 k x a i = some (a + (x.length - i))) := by
  induction d with
  | zero =>
    intro x a i h0 ha hb hi hn hd hr
    refine ev_rs 0 fun m _ => ?_
    simp (disch := omega) only [laws_heldIntS.l0, if_neg]
    rw [show a + ((x.length : Int) - i) = a by omega]
  | succ d ih =>
    intro x a i h0 ha hb hi hn hd hr
    by_cases hlt : i < (x.length : Int)
    · obtain ⟨K, ih⟩ := ih x (a + 1) (i + 1) (by omega) (by omega) (by omega) (by omega) hn (by omega) (fun j h1 h2 => by rw [hr j (by omega) h2]; omega)
      refine ev_rs K fun m hm => ?_
      have he : rd x i = a := by rw [hr i (Int.le_refl _) hlt]; omega
      simp (disch := omega) only [laws_heldIntS.l0, if_pos, w64]
      rw [ih m hm]
      rw [show a + 1 + ((x.length : Int) - (i + 1)) = a + (x.length - i) by omega]
    · refine ev_rs 0 fun m _ => ?_
      simp (disch := omega) only [laws_heldIntS.l0, if_neg]
      rw [show a + ((x.length : Int) - i) = a by omega]
/-- What is marked is held. -/
theorem marks_any (x : List Int) (a : Int) (ha : 0 ≤ a) (hb : a + x.length < 1152921504606846976) :
    ∃ y, (∃ K, ∀ k, K ≤ k → laws_markIntS.f k x a = some ((a + x.length, y))) ∧ y.length = x.length ∧ (∃ K, ∀ k, K ≤ k → laws_heldIntS.f k y a = some (a + x.length)) := by
  obtain ⟨y, h, hl, hr, _⟩ := markIntS_l x.length x a 0 (by omega) ha (by omega) (by omega) (by omega) (by omega)
  refine ⟨y, ?_, hl, ?_⟩
  · simpa [laws_markIntS.f] using h
  · have := heldIntS_l y.length y a 0 (by omega) ha (by omega) (by omega) (by omega) (by omega) hr
    simpa [laws_heldIntS.f, hl] using this

/-! ### impl.parseSystem, spec.ahParse: both read a text from left to right -/
/-- What both loops come to: none where a letter does not fit; else the list so far and the points that are open. -/
def pz : Nat → ByteArray → List Int → List Int → Int → Option (List Int × List Int)
  | 0, _, out, op, _ => some (out, op)
  | d + 1, s, out, op, i =>
    if bt s i = 40 then pz d s out (op ++ [i]) (i + 1)
    else if bt s i = 41 ∧ (op.length : Int) > 0 then
      pz d s ((out.set (rd op ((op.length : Int) - 1)).toNat i).set i.toNat (rd op ((op.length : Int) - 1))) (op.take (op.length - 1)) (i + 1)
    else none
/-- The open points lie ahead of a place. -/
def OpenOk (op : List Int) (i : Int) : Prop := (∀ x ∈ op, 0 ≤ x ∧ x < i) ∧ (op.length : Int) ≤ i
theorem OpenOk.push {op : List Int} {i : Int} (h : OpenOk op i) (h0 : 0 ≤ i) : OpenOk (op ++ [i]) (i + 1) := by
  refine ⟨fun x hx => ?_, by simp; exact h.2⟩
  rcases List.mem_append.1 hx with hx | hx
  · have := h.1 x hx; omega
  · have : x = i := by simpa using hx
    omega
theorem OpenOk.pop {op : List Int} {i : Int} (h : OpenOk op i) : OpenOk (op.take (op.length - 1)) (i + 1) := by
  refine ⟨fun x hx => ?_, by simp; have := h.2; omega⟩
  have := h.1 x (List.mem_of_mem_take hx); omega
theorem OpenOk.last {op : List Int} {i : Int} (h : OpenOk op i) (hl : (op.length : Int) > 0) : 0 ≤ rd op ((op.length : Int) - 1) ∧ rd op ((op.length : Int) - 1) < i :=
  h.1 _ (rd_mem op _ (by omega) (by omega))
def pzOut : Option (List Int × List Int) → List Int × Bool
  | none => ([], false)
  | some (o, op) => if op.length = 0 then (o, true) else ([], false)
def pzImpl : Option (List Int × List Int) → List Int × Bool
  | none => ([], false)
  | some (o, op) => (o, decide (op.length = 0))
theorem pz_length (s : ByteArray) (d : Nat) : ∀ (out op : List Int) (i : Int) o p, pz d s out op i = some (o, p) → o.length = out.length := by
  induction d with
  | zero => intro out op i o p h; simp [pz] at h; rw [h.1]
  | succ d ih =>
    intro out op i o p h
    unfold pz at h
    split at h
    · exact ih _ _ _ _ _ h
    · split at h
      · have := ih _ _ _ _ _ h
        simpa using this
      · cases h
theorem ahParse_l (s : ByteArray) (hs : s.size ≤ 1048576) (d : Nat) : ∀ (out op : List Int) (i : Int), 0 ≤ i → (s.size : Int) = i + d → out.length = s.size → OpenOk op i →
    (∃ K, ∀ k, K ≤ k → spec_ahParse.l0 k s out op i = some (pzOut (pz d s out op i))) := by
  induction d with
  | zero =>
    intro out op i h0 hd ho hop
    refine ev_rs 0 fun m _ => ?_
    simp (disch := omega) only [spec_ahParse.l0, if_neg, pz, pzOut]
    by_cases h : (op.length : Int) > 0
    · rw [if_pos h, if_neg (by omega)]
    · rw [if_neg h, if_pos (by omega)]
  | succ d ih =>
    intro out op i h0 hd ho hop
    have hol := hop.2
    by_cases h40 : bt s i = 40
    · obtain ⟨K, ih⟩ := ih out (op ++ [i]) (i + 1) (by omega) (by omega) ho (hop.push h0)
      refine ev_rs K fun m hm => ?_
      simp (disch := omega) only [spec_ahParse.l0, if_pos, if_neg, w64, pz]
      exact ih m hm
    · by_cases h41 : bt s i = 41 ∧ (op.length : Int) > 0
      · obtain ⟨g0, g1⟩ := hop.last h41.2
        obtain ⟨K, ih⟩ := ih ((out.set (rd op ((op.length : Int) - 1)).toNat i).set i.toNat (rd op ((op.length : Int) - 1))) (op.take (op.length - 1)) (i + 1) (by omega) (by omega) (by simpa using ho) hop.pop
        refine ev_rs K fun m hm => ?_
        have e : ((op.length : Int) - 1).toNat = op.length - 1 := by omega
        simp (disch := omega) only [spec_ahParse.l0, if_pos, if_neg, w64, pz]
        rw [e]
        exact ih m hm
      · refine ev_rs 0 fun m hm => ?_
        simp (disch := omega) only [spec_ahParse.l0, if_pos, if_neg, w64, pz, pzOut]
        simp
theorem ahParse_any (s : ByteArray) (hs : s.size ≤ 1048576) : (∃ K, ∀ k, K ≤ k → spec_ahParse.f k s = some (if (s.size : Int) > 12 then ([], false) else pzOut (pz s.size s (List.replicate s.size 0) [] 0))) := by
  obtain ⟨K, h⟩ := ahParse_l s hs s.size (List.replicate s.size 0) [] 0 (by omega) (by omega) (by simp) ⟨by simp, by simp⟩
  refine ⟨K, fun k hk => ?_⟩
  unfold spec_ahParse.f
  split
  · rfl
  · rw [if_pos (by omega), if_pos (by omega)]
    simpa using h k hk
theorem parseSystem_l (s : ByteArray) (hs : s.size ≤ 1048576) (d : Nat) : ∀ (out op : List Int) (i : Int), 0 ≤ i → (s.size : Int) = i + d → out.length = s.size → OpenOk op i →
    (∃ K, ∀ k, K ≤ k → impl_parseSystem.l0 k s out op s.size i = some (pzImpl (pz d s out op i))) := by
  induction d with
  | zero =>
    intro out op i h0 hd ho hop
    refine ev_rs 0 fun m _ => ?_
    simp (disch := omega) only [impl_parseSystem.l0, if_neg, pz, pzImpl]
    congr 2
    by_cases h : op.length = 0
    · simp [h]
    · simp [h]
  | succ d ih =>
    intro out op i h0 hd ho hop
    have hol := hop.2
    by_cases h40 : bt s i = 40
    · obtain ⟨K, ih⟩ := ih out (op ++ [i]) (i + 1) (by omega) (by omega) ho (hop.push h0)
      refine ev_rs K fun m hm => ?_
      simp (disch := omega) only [impl_parseSystem.l0, if_pos, if_neg, w64, pz]
      exact ih m hm
    · by_cases h41 : bt s i = 41 ∧ (op.length : Int) > 0
      · obtain ⟨g0, g1⟩ := hop.last h41.2
        obtain ⟨K, ih⟩ := ih ((out.set (rd op ((op.length : Int) - 1)).toNat i).set i.toNat (rd op ((op.length : Int) - 1))) (op.take (op.length - 1)) (i + 1) (by omega) (by omega) (by simpa using ho) hop.pop
        refine ev_rs K fun m hm => ?_
        have e : ((op.length : Int) - 1).toNat = op.length - 1 := by omega
        simp (disch := omega) only [impl_parseSystem.l0, if_pos, if_neg, w64, pz]
        rw [e]
        rw [List.set_comm _ _ (by omega)]
        exact ih m hm
      · refine ev_rs 0 fun m hm => ?_
        simp (disch := omega) only [impl_parseSystem.l0, if_pos, if_neg, w64, pz, pzImpl]
        simp
theorem parseSystem_any (s : ByteArray) (hs : s.size ≤ 1048576) : (∃ K, ∀ k, K ≤ k → impl_parseSystem.f k s = some (pzImpl (pz s.size s (List.replicate s.size 0) [] 0))) := by
  obtain ⟨K, h⟩ := parseSystem_l s hs s.size (List.replicate s.size 0) [] 0 (by omega) (by omega) (by simp) ⟨by simp, by simp⟩
  refine ⟨K, fun k hk => ?_⟩
  unfold impl_parseSystem.f
  rw [if_pos (by omega), if_pos (by omega)]
  simpa using h k hk
theorem pz_both (x : Option (List Int × List Int)) : (if (pzImpl x).2 = true then ((pzImpl x).1, true) else ([], false)) = pzOut x := by
  rcases x with _ | ⟨o, op⟩
  · rfl
  · by_cases h : op.length = 0 <;> simp [pzImpl, pzOut, h]

/-- What both tell of a text. -/
def parsed (s : ByteArray) : List Int × Bool := if (s.size : Int) > 12 then ([], false) else pzOut (pz s.size s (List.replicate s.size 0) [] 0)
theorem parsed_length (s : ByteArray) : (parsed s).1.length ≤ 12 := by
  unfold parsed
  split
  · simp
  · cases h : pz s.size s (List.replicate s.size 0) [] 0 with
    | none => simp [pzOut]
    | some x =>
      have := pz_length _ _ _ _ _ _ _ h
      unfold pzOut
      simp only
      split
      · simp at this; simp; omega
      · simp
theorem ParseSystem_any (s : ByteArray) (hs : s.size ≤ 1048576) : (∃ K, ∀ k, K ≤ k → impl_ParseSystem.f k s = some (parsed s)) := by
  obtain ⟨K, h⟩ := parseSystem_any s hs
  refine ⟨K, fun k hk => ?_⟩
  unfold impl_ParseSystem.f parsed
  rw [h k hk, Option.bind_some, ← pz_both]
  by_cases h12 : (s.size : Int) > 12
  · simp only [if_pos h12]; split <;> rfl
  · simp only [if_neg h12]; split <;> rfl
theorem FnExactParseSystem : laws_FnExactParseSystem.Pure := by
  intro s _
  by_cases hl : (s.size : Int) > 1048576
  · exact ⟨0, by simp [laws_FnExactParseSystem.f, hl]⟩
  · obtain ⟨K1, h1⟩ := ParseSystem_any s (by omega)
    obtain ⟨K2, h2⟩ := ahParse_any s (by omega)
    have hn := parsed_length s
    obtain ⟨K3, h3⟩ := eqIntS_any (parsed s).1 (parsed s).1 (by omega)
    obtain ⟨y, ⟨K4, h4⟩, hy, ⟨K5, h5⟩⟩ := marks_any (parsed s).1 1 (by omega) (by omega)
    have hpos : ¬ (1 : Int) + (parsed s).1.length < 0 := by omega
    refine ⟨K1 + K2 + K3 + K4 + K5 + 2, ?_⟩
    rw [← parsed] at h2
    simp (disch := omega) only [laws_FnExactParseSystem.f, spec_ParseSystem.f, if_neg, h1, h2, h3, Option.bind_some, decide_true, if_true, bne_self_eq_false]
    simp (disch := omega) only [laws_FnExactParseSystem.j0, Bool.false_eq_true, if_false, h4, h5, h1, h3, Option.bind_some, if_neg, if_true, decide_true, bne_self_eq_false, hpos]
    simp (disch := omega) only [laws_FnExactParseSystem.j1, Bool.false_eq_true, if_false, h5, Option.bind_some, hpos, if_true]

end Go.Proofs.Ytglneifblgncaaa.Pure
