/- The law FnExactMeanderWith returns true at every pair of numbers: the program's MeanderWith and the reference's tell the same, and what came in stays as it is. Conditions: none beyond the form's own. -/
import Derived.Test.YtpepnlcelllhkaaQFnExactMeanderWithx9
namespace Go.Proofs.Ytpepnlcelllhkaa.Pure
open Go.RowKit Go.Proofs.Ytpepnlcelllhkaa.QFnExactMeanderWith Go.Proofs.YtpepnlcelllhkaaW.PrintWords Go.Proofs.YtpepnlcelllhkaaW.PrintLast
set_option linter.unusedVariables false
set_option linter.unusedSimpArgs false

/-! ### Words of my own -/
theorem w64 {x : Int} (h1 : -9223372036854775808 ≤ x) (h2 : x < 9223372036854775808) : wrap64 x = x := by unfold wrap64; omega
theorem ev_rs {α : Type} {g : Nat → Option α} {r : α} (K : Nat) (h : ∀ m, K ≤ m → g (m + 1) = some r) : ∃ K, ∀ k, K ≤ k → g k = some r := by
  refine ⟨K + 1, fun k hk => ?_⟩
  obtain ⟨m, rfl⟩ : ∃ m, k = m + 1 := ⟨k - 1, by omega⟩
  exact h m (by omega)
noncomputable def tf (P : Prop) : Bool := @decide P (Classical.propDecidable P)
theorem tf_t {P : Prop} (h : P) : tf P = true := by unfold tf; simp [h]
theorem tf_f {P : Prop} (h : ¬ P) : tf P = false := by unfold tf; simp [h]
theorem tf_iff {P : Prop} : tf P = true ↔ P := by unfold tf; simp
theorem tf_c {P Q : Prop} (h : P ↔ Q) : tf P = tf Q := by rw [propext h]
theorem tf_d {P : Prop} [Decidable P] : tf P = decide P := by
  by_cases h : P
  · rw [tf_t h]; simp [h]
  · rw [tf_f h]; simp [h]
theorem rd_def (l : List Int) (i : Int) : rd l i = l.getD i.toNat 0 := rfl
theorem rd_set (l : List Int) (i j v : Int) (hi : 0 ≤ i) (hl : i < l.length) (hj : 0 ≤ j) : rd (l.set i.toNat v) j = if j = i then v else rd l j := by
  unfold rd
  simp only [List.getD_eq_getElem?_getD, List.getElem?_set]
  by_cases e : j = i
  · subst e
    rw [if_pos rfl, if_pos rfl, if_pos (by omega)]; rfl
  · rw [if_neg (by omega), if_neg e]
theorem rd_get (l : List Int) (i : Nat) (h : i < l.length) : rd l i = l[i] := by
  unfold rd
  rw [Int.toNat_natCast, List.getD_eq_getElem?_getD, List.getElem?_eq_getElem h]; rfl
theorem rd_ext {a b : List Int} (hl : a.length = b.length) (h : ∀ j : Int, 0 ≤ j → j < a.length → rd a j = rd b j) : a = b := by
  refine List.ext_getElem hl fun i h1 h2 => ?_
  have := h i (by omega) (by omega)
  rwa [rd_get a i h1, rd_get b i h2] at this
theorem rd_mem (l : List Int) (i : Int) (h0 : 0 ≤ i) (h : i < l.length) : rd l i ∈ l := by
  have e := rd_get l i.toNat (by omega)
  rw [show ((i.toNat : Nat) : Int) = i by omega] at e
  rw [e]; exact List.getElem_mem _

/-! ### laws.eqIntS, laws.toIntS -/
theorem eqIntS_l (a b : List Int) (hl : a.length = b.length) (hn : a.length < 4611686018427387904) (d : Nat) : ∀ i : Int, 0 ≤ i → (a.length : Int) - i ≤ d →
    (∃ K, ∀ k, K ≤ k → laws_eqIntS.l0 k a b i = some (tf (∀ j : Int, i ≤ j → j < a.length → rd a j = rd b j))) := by
  induction d with
  | zero =>
    intro i h0 hd
    refine ev_rs 0 fun m _ => ?_
    simp (disch := omega) only [laws_eqIntS.l0, if_neg]
    rw [tf_t]
    intro j h1 h2; omega
  | succ d ih =>
    intro i h0 hd
    by_cases hlt : i < (a.length : Int)
    · obtain ⟨K, ih⟩ := ih (i + 1) (by omega) (by omega)
      by_cases he : rd a i = rd b i
      · refine ev_rs K fun m hm => ?_
        simp (disch := omega) only [laws_eqIntS.l0, if_pos, w64]
        rw [ih m hm]
        congr 1
        refine tf_c ⟨fun h j h1 h2 => ?_, fun h j h1 h2 => h j (by omega) h2⟩
        by_cases e : j = i
        · rw [e]; exact he
        · exact h j (by omega) h2
      · refine ev_rs 0 fun m hm => ?_
        simp (disch := omega) only [laws_eqIntS.l0, if_pos]
        first | rw [if_neg he, tf_f] | rw [tf_f]
        exact fun h => he (h i (Int.le_refl _) hlt)
    · refine ev_rs 0 fun m _ => ?_
      simp (disch := omega) only [laws_eqIntS.l0, if_neg]
      rw [tf_t]
      intro j h1 h2; omega
theorem eqIntS_any (a b : List Int) (hn : a.length < 4611686018427387904) : (∃ K, ∀ k, K ≤ k → laws_eqIntS.f k a b = some (decide (a = b))) := by
  by_cases hl : a.length = b.length
  · obtain ⟨K, h⟩ := eqIntS_l a b hl hn a.length 0 (by omega) (by omega)
    refine ⟨K, fun k hk => ?_⟩
    unfold laws_eqIntS.f
    rw [if_pos (by omega), h k hk, ← tf_d]
    congr 1
    exact tf_c ⟨fun h => rd_ext hl fun j => h j, fun h j _ _ => by rw [h]⟩
  · refine ⟨0, fun k hk => ?_⟩
    unfold laws_eqIntS.f
    rw [if_neg (by omega)]
    congr 1
    exact (decide_eq_false fun h => hl (by rw [h])).symm

/-! ### laws.markIntS, laws.heldIntS -/
/-- The numbers from a on stand in a list from a place on. -/
def Runs (l : List Int) (a i : Int) : Prop := ∀ j : Int, i ≤ j → j < l.length → rd l j = a + (j - i)
theorem markIntS_l (d : Nat) : ∀ (x : List Int) (a i : Int), 0 ≤ i → 0 ≤ a → a + (x.length - i) < 1152921504606846976 → i ≤ x.length → (x.length : Int) < 1152921504606846976 → (x.length : Int) - i ≤ d →
    ∃ y, (∃ K, ∀ k, K ≤ k → laws_markIntS.l0 k x a i = some ((a + (x.length - i), y))) ∧ y.length = x.length ∧ Runs y a i ∧ ∀ j : Int, 0 ≤ j → j < i → rd y j = rd x j := by
  induction d with
  | zero =>
    intro x a i h0 ha hb hi hn hd
    refine ⟨x, ev_rs 0 fun m _ => ?_, rfl, fun j h1 h2 => by omega, fun j _ _ => rfl⟩
    simp (disch := omega) only [laws_markIntS.l0, if_neg]
    rw [show a + ((x.length : Int) - i) = a by omega]
  | succ d ih =>
    intro x a i h0 ha hb hi hn hd
    by_cases hlt : i < (x.length : Int)
    · obtain ⟨y, ⟨K, ih⟩, hl, hr, hk⟩ := ih (x.set i.toNat a) (a + 1) (i + 1) (by omega) (by omega) (by simp; omega) (by simp; omega) (by simpa using hn) (by simp; omega)
      refine ⟨y, ev_rs K fun m hm => ?_, by simpa using hl, fun j h1 h2 => ?_, fun j h1 h2 => ?_⟩
      · simp (disch := omega) only [laws_markIntS.l0, if_pos, w64]
        rw [ih m hm]
        rw [List.length_set, show a + 1 + ((x.length : Int) - (i + 1)) = a + (x.length - i) by omega]
      · by_cases e : j = i
        · rw [hk j (by omega) (by omega), rd_set x i j _ h0 hlt (by omega), if_pos e]; omega
        · rw [hr j (by omega) h2]; omega
      · rw [hk j h1 (by omega), rd_set x i j _ h0 hlt h1, if_neg (by omega)]
    · refine ⟨x, ev_rs 0 fun m _ => ?_, rfl, fun j h1 h2 => by omega, fun j _ _ => rfl⟩
      simp (disch := omega) only [laws_markIntS.l0, if_neg]
      rw [show a + ((x.length : Int) - i) = a by omega]
theorem heldIntS_l (d : Nat) : ∀ (x : List Int) (a i : Int), 0 ≤ i → 0 ≤ a → a + (x.length - i) < 1152921504606846976 → i ≤ x.length → (x.length : Int) < 1152921504606846976 → (x.length : Int) - i ≤ d → Runs x a i →
    (∃ K, ∀ k, K ≤ k → laws_heldIntS.l0 k x a i = some (a + (x.length - i))) := by
  induction d with
  | zero =>
    intro x a i h0 ha hb hi hn hd hr
    refine ev_rs 0 fun m _ => ?_
    simp (disch := omega) only [laws_heldIntS.l0, if_neg]
    rw [show a + ((x.length : Int) - i) = a by omega]
  | succ d ih =>
    intro x a i h0 ha hb hi hn hd hr
    by_cases hlt : i < (x.length : Int)
    · obtain ⟨K, ih⟩ := ih x (a + 1) (i + 1) (by omega) (by omega) (by omega) (by omega) hn (by omega) (fun j h1 h2 => by rw [hr j (by omega) h2]; omega)
      refine ev_rs K fun m hm => ?_
      have he : rd x i = a := by rw [hr i (Int.le_refl _) hlt]; omega
      simp (disch := omega) only [laws_heldIntS.l0, if_pos, w64]
      rw [ih m hm]
      rw [show a + 1 + ((x.length : Int) - (i + 1)) = a + (x.length - i) by omega]
    · refine ev_rs 0 fun m _ => ?_
      simp (disch := omega) only [laws_heldIntS.l0, if_neg]
      rw [show a + ((x.length : Int) - i) = a by omega]
/-- What is marked is held. -/
theorem marks_any (x : List Int) (a : Int) (ha : 0 ≤ a) (hb : a + x.length < 1152921504606846976) :
    ∃ y, (∃ K, ∀ k, K ≤ k → laws_markIntS.f k x a = some ((a + x.length, y))) ∧ y.length = x.length ∧ (∃ K, ∀ k, K ≤ k → laws_heldIntS.f k y a = some (a + x.length)) := by
  obtain ⟨y, h, hl, hr, _⟩ := markIntS_l x.length x a 0 (by omega) ha (by omega) (by omega) (by omega) (by omega)
  refine ⟨y, ?_, hl, ?_⟩
  · simpa [laws_markIntS.f] using h
  · have := heldIntS_l y.length y a 0 (by omega) ha (by omega) (by omega) (by omega) (by omega) hr
    simpa [laws_heldIntS.f, hl] using this

theorem in_any (a lo hi : Int) : impl_in.f a lo hi = some (decide (lo ≤ a ∧ a ≤ hi)) := by
  unfold impl_in.f
  by_cases h : lo ≤ a <;> simp [h]
theorem l1In_any (a lo hi : Int) : spec_l1In.f a lo hi = some (decide (lo ≤ a ∧ a ≤ hi)) := by
  unfold spec_l1In.f
  by_cases h : lo ≤ a
  · rw [if_pos h]; simp [h]
  · rw [if_neg h]; simp [h]

/-! ### laws.eqMeander -/
theorem eqMeander_any (a b c d : List Int) (ha : a.length < 4611686018427387904) (hb : b.length < 4611686018427387904) : (∃ K, ∀ k, K ≤ k → laws_eqMeander.f k a b c d = some (decide (a = c ∧ b = d))) := by
  obtain ⟨K1, h1⟩ := eqIntS_any a c ha
  obtain ⟨K2, h2⟩ := eqIntS_any b d hb
  refine ⟨K1 + K2, fun k hk => ?_⟩
  simp (disch := omega) only [laws_eqMeander.f, h1, h2, Option.bind_some]
  by_cases e1 : a = c <;> by_cases e2 : b = d <;> simp [e1, e2]

/-! ### laws.markMeander, laws.heldMeander -/
theorem markM_any (l m : List Int) (a : Int) (ha : 0 ≤ a) (hb : a + l.length + m.length < 1152921504606846976) :
    ∃ y z, (∃ K, ∀ k, K ≤ k → laws_markMeander.f k l m a = some ((a + l.length + m.length, y, z))) ∧ y.length = l.length ∧ z.length = m.length ∧ (∃ K, ∀ k, K ≤ k → laws_heldMeander.f k y z a = some (a + l.length + m.length)) := by
  obtain ⟨y, ⟨K1, h1⟩, hy, ⟨K2, h2⟩⟩ := marks_any l a ha (by omega)
  obtain ⟨z, ⟨K3, h3⟩, hz, ⟨K4, h4⟩⟩ := marks_any m (a + l.length) (by omega) (by omega)
  refine ⟨y, z, ⟨K1 + K3, fun k hk => ?_⟩, hy, hz, ⟨K2 + K4, fun k hk => ?_⟩⟩
  · simp (disch := omega) only [laws_markMeander.f, h1, h3, Option.bind_some]
  · simp (disch := omega) only [laws_heldMeander.f, h2, h4, Option.bind_some, if_neg]

/-! ### meanders by their ranks -/
theorem at_rounds' {α : Type} {g : Nat → Option α} (hm : ∀ k, LeO (g k) (g (k + 1))) {K k : Nat} (h : K ≤ k) {r : α} (e : g K = some r) : g k = some r := by
  obtain ⟨d, rfl⟩ : ∃ d, k = K + d := ⟨k - K, by omega⟩
  clear h
  induction d with
  | zero => exact e
  | succ d ih => exact hm _ _ ih
def prOf (x : S44) : List Int × List Int := (x.f0, x.f1)
theorem prOf_inj : ∀ {a b : List S44}, a.map prOf = b.map prOf → a = b
  | [], [], _ => rfl
  | x :: a, y :: b, h => by
    rw [List.map_cons, List.map_cons] at h
    injection h with h1 h2
    cases x
    cases y
    injection h1 with h3 h4
    simp only at h3 h4
    rw [h3, h4, prOf_inj h2]
  | [], _ :: _, h => by cases h
  | _ :: _, [], h => by cases h
def mwB (o p : Option (List S44)) : Bool := match o, p with
  | some a, some b => a.map prOf == b.map prOf && decide (a.length ≤ 42) && a.all (fun x => decide (x.f0.length ≤ 8) && decide (x.f1.length ≤ 8))
  | _, _ => false
theorem mw_tab : ((List.range 5).all fun n => mwB (impl_meanders.f 700 ((n : Nat) : Int)) (spec_meAll.f 700 ((n : Nat) : Int))) = true := by decide +kernel
def ML (n : Nat) : List S44 := (impl_meanders.f 700 ((n : Nat) : Int)).getD []
theorem ML_any {n : Nat} (h : n < 5) : impl_meanders.f 700 ((n : Nat) : Int) = some (ML n) ∧ spec_meAll.f 700 ((n : Nat) : Int) = some (ML n) ∧ (ML n).length ≤ 42 ∧ ∀ x ∈ ML n, x.f0.length ≤ 8 ∧ x.f1.length ≤ 8 := by
  have t := List.all_eq_true.1 mw_tab _ (List.mem_range.2 h)
  unfold ML
  generalize impl_meanders.f 700 ((n : Nat) : Int) = o at t ⊢
  generalize spec_meAll.f 700 ((n : Nat) : Int) = p at t ⊢
  unfold mwB at t
  cases o with
  | none => cases t
  | some a =>
    cases p with
    | none => cases t
    | some b =>
      simp only [Bool.and_eq_true, beq_iff_eq, decide_eq_true_eq, List.all_eq_true] at t
      obtain ⟨⟨h1, h2⟩, h3⟩ := t
      rw [prOf_inj h1] at h2 h3 ⊢
      exact ⟨rfl, rfl, h2, h3⟩
noncomputable def mwR (n r : Int) : List Int × List Int × Bool := if (0 ≤ n ∧ n ≤ 4) ∧ (0 ≤ r ∧ r ≤ ((ML n.toNat).length : Int) - 1) then ((rd_T44 (ML n.toNat) r).f0, (rd_T44 (ML n.toNat) r).f1, true) else ([], [], false)
theorem mwR_length (n r : Int) : (mwR n r).1.length ≤ 8 ∧ (mwR n r).2.1.length ≤ 8 := by
  unfold mwR
  split
  · rename_i h
    obtain ⟨_, _, _, h4⟩ := ML_any (n := n.toNat) (by omega)
    unfold rd_T44
    rw [List.getD_eq_getElem?_getD, List.getElem?_eq_getElem (by omega)]
    exact h4 _ (List.getElem_mem _)
  · simp
theorem implMW_any (n r : Int) : (∃ K, ∀ k, K ≤ k → impl_MeanderWith.f k n r = some (mwR n r)) := by
  by_cases h : 0 ≤ n ∧ n ≤ 4
  · obtain ⟨h1, _, h3, _⟩ := ML_any (n := n.toNat) (by omega)
    rw [show ((n.toNat : Nat) : Int) = n by omega] at h1
    refine ⟨700, fun k hk => ?_⟩
    have e1 : impl_meanders.f k n = some (ML n.toNat) := at_rounds' (g := fun k => impl_meanders.f k n) (impl_meanders.mono n) hk h1
    simp only [impl_MeanderWith.f, impl_isListed.f, in_any, decide_eq_true h, Option.bind_some, if_true, e1, mwR]
    rw [w64 (by omega) (by omega)]
    by_cases h2 : 0 ≤ r ∧ r ≤ ((ML n.toNat).length : Int) - 1
    · rw [if_pos (decide_eq_true h2), if_pos h2.1, if_pos (by omega), if_pos ⟨h, h2⟩]
    · rw [if_neg (by rw [decide_eq_false h2]; decide), if_neg (fun e => h2 e.2)]
  · exact ⟨0, fun k _ => by
      rw [mwR, if_neg (fun e => h e.1)]
      simp only [impl_MeanderWith.f, impl_isListed.f, in_any, decide_eq_false h, Option.bind_some, Bool.false_eq_true, if_false]⟩
theorem specMW_any (n r : Int) : (∃ K, ∀ k, K ≤ k → spec_MeanderWith.f k n r = some (mwR n r)) := by
  by_cases h : 0 ≤ n ∧ n ≤ 4
  · obtain ⟨_, h1, h3, _⟩ := ML_any (n := n.toNat) (by omega)
    rw [show ((n.toNat : Nat) : Int) = n by omega] at h1
    refine ⟨700, fun k hk => ?_⟩
    have e1 : spec_meAll.f k n = some (ML n.toNat) := at_rounds' (g := fun k => spec_meAll.f k n) (spec_meAll.mono n) hk h1
    simp only [spec_MeanderWith.f, spec_meListed.f, l1In_any, decide_eq_true h, Option.bind_some, if_true, e1, mwR]
    rw [w64 (by omega) (by omega)]
    by_cases h2 : 0 ≤ r ∧ r ≤ ((ML n.toNat).length : Int) - 1
    · rw [if_pos (decide_eq_true h2), if_pos h2.1, if_pos (by omega), if_pos ⟨h, h2⟩]
    · rw [if_neg (by rw [decide_eq_false h2]; decide), if_neg (fun e => h2 e.2)]
  · exact ⟨0, fun k _ => by
      rw [mwR, if_neg (fun e => h e.1)]
      simp only [spec_MeanderWith.f, spec_meListed.f, l1In_any, decide_eq_false h, Option.bind_some, Bool.false_eq_true, if_false]⟩

theorem FnExactMeanderWith : laws_FnExactMeanderWith.Pure := by
  intro n r _ _
  obtain ⟨KI, hI⟩ := implMW_any n r 
  obtain ⟨KS, hS⟩ := specMW_any n r 
  have hR := mwR_length n r
  obtain ⟨KR, hE⟩ := eqMeander_any (mwR n r).1 (mwR n r).2.1 (mwR n r).1 (mwR n r).2.1 (by omega) (by omega)
  obtain ⟨zz, zu, ⟨KZ, hM⟩, _, _, ⟨KH, hH⟩⟩ := markM_any (mwR n r).1 (mwR n r).2.1 1 (by omega) (by omega)
  have hp2 : ¬ (1 : Int) + (mwR n r).1.length + (mwR n r).2.1.length < 0 := by omega
  refine ⟨KI + KS + KR + KZ + KH + 6, ?_⟩
  simp (disch := omega) only [laws_FnExactMeanderWith.f, Bool.false_eq_true, if_false, if_neg, hI, hS, hp2, hE, hM, hH, Option.bind_some, decide_true, if_true, bne_self_eq_false, and_self]
  simp (disch := omega) only [laws_FnExactMeanderWith.j0, Bool.false_eq_true, if_false, if_neg, hI, hS, hp2, hE, hM, hH, Option.bind_some, decide_true, if_true, bne_self_eq_false, and_self]
  simp (disch := omega) only [laws_FnExactMeanderWith.j1, Bool.false_eq_true, if_false, if_neg, hI, hS, hp2, hE, hM, hH, Option.bind_some, decide_true, if_true, bne_self_eq_false, and_self]

end Go.Proofs.Ytpepnlcelllhkaa.Pure
