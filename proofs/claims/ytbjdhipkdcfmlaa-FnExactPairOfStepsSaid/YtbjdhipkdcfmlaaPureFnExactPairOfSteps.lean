/- The law FnExactPairOfSteps returns true at every input: the program's PairOfSteps and the reference's give the same. Conditions: none beyond the form's own. -/
import Derived.Test.YtbjdhipkdcfmlaaQFnExactPairOfStepsx6
import Derived.Test.YtbjdhipkdcfmlaaMyPl
namespace Go.Proofs.Ytbjdhipkdcfmlaa.Pure
open Go.RowKit Go.Proofs.Ytbjdhipkdcfmlaa.QFnExactPairOfSteps Go.Proofs.YtbjdhipkdcfmlaaW.PrintWords Go.Proofs.YtbjdhipkdcfmlaaW.PrintLast
set_option linter.unusedVariables false
set_option linter.unusedSimpArgs false

/-! ### Words of my own -/
theorem w64 {x : Int} (h1 : -9223372036854775808 ≤ x) (h2 : x < 9223372036854775808) : wrap64 x = x := by unfold wrap64; omega
theorem ev_rs {α : Type} {g : Nat → Option α} {r : α} (K : Nat) (h : ∀ m, K ≤ m → g (m + 1) = some r) : ∃ K, ∀ k, K ≤ k → g k = some r := by
  refine ⟨K + 1, fun k hk => ?_⟩
  obtain ⟨m, rfl⟩ : ∃ m, k = m + 1 := ⟨k - 1, by omega⟩
  exact h m (by omega)
noncomputable def tf (P : Prop) : Bool := @decide P (Classical.propDecidable P)
theorem tf_t {P : Prop} (h : P) : tf P = true := by unfold tf; simp [h]
theorem tf_f {P : Prop} (h : ¬ P) : tf P = false := by unfold tf; simp [h]
theorem tf_iff {P : Prop} : tf P = true ↔ P := by unfold tf; simp
theorem tf_c {P Q : Prop} (h : P ↔ Q) : tf P = tf Q := by rw [propext h]
theorem tf_d {P : Prop} [Decidable P] : tf P = decide P := by
  by_cases h : P
  · rw [tf_t h]; simp [h]
  · rw [tf_f h]; simp [h]
theorem rd_def (l : List Int) (i : Int) : rd l i = l.getD i.toNat 0 := rfl
theorem rd_set (l : List Int) (i j v : Int) (hi : 0 ≤ i) (hl : i < l.length) (hj : 0 ≤ j) : rd (l.set i.toNat v) j = if j = i then v else rd l j := by
  unfold rd
  simp only [List.getD_eq_getElem?_getD, List.getElem?_set]
  by_cases e : j = i
  · subst e
    rw [if_pos rfl, if_pos rfl, if_pos (by omega)]; rfl
  · rw [if_neg (by omega), if_neg e]
theorem rd_get (l : List Int) (i : Nat) (h : i < l.length) : rd l i = l[i] := by
  unfold rd
  rw [Int.toNat_natCast, List.getD_eq_getElem?_getD, List.getElem?_eq_getElem h]; rfl
theorem rd_ext {a b : List Int} (hl : a.length = b.length) (h : ∀ j : Int, 0 ≤ j → j < a.length → rd a j = rd b j) : a = b := by
  refine List.ext_getElem hl fun i h1 h2 => ?_
  have := h i (by omega) (by omega)
  rwa [rd_get a i h1, rd_get b i h2] at this
theorem rd_mem (l : List Int) (i : Int) (h0 : 0 ≤ i) (h : i < l.length) : rd l i ∈ l := by
  have e := rd_get l i.toNat (by omega)
  rw [show ((i.toNat : Nat) : Int) = i by omega] at e
  rw [e]; exact List.getElem_mem _

/-! ### laws.eqIntS, laws.toIntS -/
theorem eqIntS_l (a b : List Int) (hl : a.length = b.length) (hn : a.length < 4611686018427387904) (d : Nat) : ∀ i : Int, 0 ≤ i → (a.length : Int) - i ≤ d →
    (∃ K, ∀ k, K ≤ k → laws_eqIntS.l0 k a b i = some (tf (∀ j : Int, i ≤ j → j < a.length → rd a j = rd b j))) := by
  induction d with
  | zero =>
    intro i h0 hd
    refine ev_rs 0 fun m _ => ?_
    simp (disch := omega) only [laws_eqIntS.l0, if_neg]
    rw [tf_t]
    intro j h1 h2; omega
  | succ d ih =>
    intro i h0 hd
    by_cases hlt : i < (a.length : Int)
    · obtain ⟨K, ih⟩ := ih (i + 1) (by omega) (by omega)
      by_cases he : rd a i = rd b i
      · refine ev_rs K fun m hm => ?_
        simp (disch := omega) only [laws_eqIntS.l0, if_pos, w64]
        rw [ih m hm]
        congr 1
        refine tf_c ⟨fun h j h1 h2 => ?_, fun h j h1 h2 => h j (by omega) h2⟩
        by_cases e : j = i
        · rw [e]; exact he
        · exact h j (by omega) h2
      · refine ev_rs 0 fun m hm => ?_
        simp (disch := omega) only [laws_eqIntS.l0, if_pos]
        first | rw [if_neg he, tf_f] | rw [tf_f]
        exact fun h => he (h i (Int.le_refl _) hlt)
    · refine ev_rs 0 fun m _ => ?_
      simp (disch := omega) only [laws_eqIntS.l0, if_neg]
      rw [tf_t]
      intro j h1 h2; omega
theorem eqIntS_any (a b : List Int) (hn : a.length < 4611686018427387904) : (∃ K, ∀ k, K ≤ k → laws_eqIntS.f k a b = some (decide (a = b))) := by
  by_cases hl : a.length = b.length
  · obtain ⟨K, h⟩ := eqIntS_l a b hl hn a.length 0 (by omega) (by omega)
    refine ⟨K, fun k hk => ?_⟩
    unfold laws_eqIntS.f
    rw [if_pos (by omega), h k hk, ← tf_d]
    congr 1
    exact tf_c ⟨fun h => rd_ext hl fun j => h j, fun h j _ _ => by rw [h]⟩
  · refine ⟨0, fun k hk => ?_⟩
    unfold laws_eqIntS.f
    rw [if_neg (by omega)]
    congr 1
    exact (decide_eq_false fun h => hl (by rw [h])).symm

theorem toIntS_l (a : List Int) (hn : a.length < 4611686018427387904) (d : Nat) : ∀ (i : Int) (x : List Int), 0 ≤ i → (a.length : Int) - i ≤ d → x.length = a.length →
    (∀ j : Int, 0 ≤ j → j < i → rd x j = rd a j) → (∃ K, ∀ k, K ≤ k → laws_toIntS.l0 k a x i = some (a)) := by
  induction d with
  | zero =>
    intro i x h0 hd hl hx
    refine ev_rs 0 fun m _ => ?_
    simp (disch := omega) only [laws_toIntS.l0, if_neg]
    rw [rd_ext hl fun j h1 h2 => hx j h1 (by omega)]
  | succ d ih =>
    intro i x h0 hd hl hx
    by_cases hlt : i < (a.length : Int)
    · obtain ⟨K, ih⟩ := ih (i + 1) (x.set i.toNat (rd a i)) (by omega) (by omega) (by simp [hl]) (fun j h1 h2 => by
        rw [rd_set x i j _ h0 (by omega) h1]
        by_cases e : j = i
        · rw [if_pos e, e]
        · rw [if_neg e]; exact hx j h1 (by omega))
      refine ev_rs K fun m hm => ?_
      simp (disch := omega) only [laws_toIntS.l0, if_pos, w64]
      exact ih m hm
    · refine ev_rs 0 fun m _ => ?_
      simp (disch := omega) only [laws_toIntS.l0, if_neg]
      rw [rd_ext hl fun j h1 h2 => hx j h1 (by omega)]
theorem toIntS_any (a : List Int) (hn : a.length ≤ 35184372088832) : (∃ K, ∀ k, K ≤ k → laws_toIntS.f k a = some (a)) := by
  obtain ⟨K, h⟩ := toIntS_l a (by omega) a.length 0 (List.replicate a.length 0) (by omega) (by omega) (by simp) (fun j h1 h2 => by omega)
  refine ⟨K, fun k hk => ?_⟩
  unfold laws_toIntS.f
  rw [if_pos (by omega), if_pos (by simpa using hn)]
  simpa using h k hk

/-! ### laws.markIntS, laws.heldIntS -/
/-- The numbers from a on stand in a list from a place on. -/
def Runs (l : List Int) (a i : Int) : Prop := ∀ j : Int, i ≤ j → j < l.length → rd l j = a + (j - i)
theorem markIntS_l (d : Nat) : ∀ (x : List Int) (a i : Int), 0 ≤ i → 0 ≤ a → a + (x.length - i) < 1152921504606846976 → i ≤ x.length → (x.length : Int) < 1152921504606846976 → (x.length : Int) - i ≤ d →
    ∃ y, (∃ K, ∀ k, K ≤ k → laws_markIntS.l0 k x a i = some ((a + (x.length - i), y))) ∧ y.length = x.length ∧ Runs y a i ∧ ∀ j : Int, 0 ≤ j → j < i → rd y j = rd x j := by
  induction d with
  | zero =>
    intro x a i h0 ha hb hi hn hd
    refine ⟨x, ev_rs 0 fun m _ => ?_, rfl, fun j h1 h2 => by omega, fun j _ _ => rfl⟩
    simp (disch := omega) only [laws_markIntS.l0, if_neg]
    rw [show a + ((x.length : Int) - i) = a by omega]
  | succ d ih =>
    intro x a i h0 ha hb hi hn hd
    by_cases hlt : i < (x.length : Int)
    · obtain ⟨y, ⟨K, ih⟩, hl, hr, hk⟩ := ih (x.set i.toNat a) (a + 1) (i + 1) (by omega) (by omega) (by simp; omega) (by simp; omega) (by simpa using hn) (by simp; omega)
      refine ⟨y, ev_rs K fun m hm => ?_, by simpa using hl, fun j h1 h2 => ?_, fun j h1 h2 => ?_⟩
      · simp (disch := omega) only [laws_markIntS.l0, if_pos, w64]
        rw [ih m hm]
        rw [List.length_set, show a + 1 + ((x.length : Int) - (i + 1)) = a + (x.length - i) by omega]
      · by_cases e : j = i
        · rw [hk j (by omega) (by omega), rd_set x i j _ h0 hlt (by omega), if_pos e]; omega
        · rw [hr j (by omega) h2]; omega
      · rw [hk j h1 (by omega), rd_set x i j _ h0 hlt h1, if_neg (by omega)]
    · refine ⟨x, ev_rs 0 fun m _ => ?_, rfl, fun j h1 h2 => by omega, fun j _ _ => rfl⟩
      simp (disch := omega) only [laws_markIntS.l0, if_neg]
      rw [show a + ((x.length : Int) - i) = a by omega]
theorem heldIntS_l (d : Nat) : ∀ (x : List Int) (a i : Int), 0 ≤ i → 0 ≤ a → a + (x.length - i) < 1152921504606846976 → i ≤ x.length → (x.length : Int) < 1152921504606846976 → (x.length : Int) - i ≤ d → Runs x a i →
    (∃ K, ∀ k, K ≤ k → laws_heldIntS.l0 k x a i = some (a + (x.length - i))) := by
  induction d with
  | zero =>
    intro x a i h0 ha hb hi hn hd hr
    refine ev_rs 0 fun m _ => ?_
    simp (disch := omega) only [laws_heldIntS.l0, if_neg]
    rw [show a + ((x.length : Int) - i) = a by omega]
  | succ d ih =>
    intro x a i h0 ha hb hi hn hd hr
    by_cases hlt : i < (x.length : Int)
    · obtain ⟨K, ih⟩ := ih x (a + 1) (i + 1) (by omega) (by omega) (by omega) (by omega) hn (by omega) (fun j h1 h2 => by rw [hr j (by omega) h2]; omega)
      refine ev_rs K fun m hm => ?_
      have he : rd x i = a := by rw [hr i (Int.le_refl _) hlt]; omega
      simp (disch := omega) only [laws_heldIntS.l0, if_pos, w64]
      rw [ih m hm]
      rw [show a + 1 + ((x.length : Int) - (i + 1)) = a + (x.length - i) by omega]
    · refine ev_rs 0 fun m _ => ?_
      simp (disch := omega) only [laws_heldIntS.l0, if_neg]
      rw [show a + ((x.length : Int) - i) = a by omega]
/-- What is marked is held. -/
theorem marks_any (x : List Int) (a : Int) (ha : 0 ≤ a) (hb : a + x.length < 1152921504606846976) :
    ∃ y, (∃ K, ∀ k, K ≤ k → laws_markIntS.f k x a = some ((a + x.length, y))) ∧ y.length = x.length ∧ (∃ K, ∀ k, K ≤ k → laws_heldIntS.f k y a = some (a + x.length)) := by
  obtain ⟨y, h, hl, hr, _⟩ := markIntS_l x.length x a 0 (by omega) ha (by omega) (by omega) (by omega) (by omega)
  refine ⟨y, ?_, hl, ?_⟩
  · simpa [laws_markIntS.f] using h
  · have := heldIntS_l y.length y a 0 (by omega) ha (by omega) (by omega) (by omega) (by omega) hr
    simpa [laws_heldIntS.f, hl] using this

theorem in_any (a lo hi : Int) : impl_in.f a lo hi = some (decide (lo ≤ a ∧ a ≤ hi)) := by
  unfold impl_in.f
  by_cases h : lo ≤ a <;> simp [h]
theorem l1In_any (a lo hi : Int) : spec_l1In.f a lo hi = some (decide (lo ≤ a ∧ a ≤ hi)) := by
  unfold spec_l1In.f
  by_cases h : lo ≤ a
  · rw [if_pos h]; simp [h]
  · rw [if_neg h]; simp [h]

/-! ### impl.isSystem, spec.ahGood: both tell whether a list is a system -/
def AllIn (n : Int) (q : Int → Int) (i : Int) : Prop := ∀ j : Int, i ≤ j → j < n → 0 ≤ q j ∧ q j < n ∧ q j ≠ j ∧ q (q j) = j
def NoCross (n : Int) (q : Int → Int) (i : Int) : Prop := ∀ a b, i ≤ a → a < n → a < b → b < q a → a ≤ q b ∧ q b ≤ q a
theorem sys_of {n : Int} {q : Int → Int} : Pl.Sys n q ↔ AllIn n q 0 ∧ NoCross n q 0 :=
  ⟨fun s => ⟨fun j h0 h1 => ⟨s.lo j h0 h1, s.hi j h0 h1, s.ne j h0 h1, s.inv j h0 h1⟩, s.cr⟩,
   fun ⟨h, c⟩ => ⟨fun j h0 h1 => (h j h0 h1).1, fun j h0 h1 => (h j h0 h1).2.1, fun j h0 h1 => (h j h0 h1).2.2.1, fun j h0 h1 => (h j h0 h1).2.2.2, c⟩⟩

theorem isSystem_l2 (l : List Int) (hn : l.length < 4611686018427387904) (a : Int) (ha : 0 ≤ a) (hal : a < l.length) (hA : AllIn l.length (rd l) 0)
    (h1 : (∃ K, ∀ k, K ≤ k → impl_isSystem.l1 k l l l.length (a + 1) = some (tf (NoCross l.length (rd l) (a + 1))))) (d : Nat) :
    ∀ b : Int, a < b → rd l a - b ≤ d → (∃ K, ∀ k, K ≤ k → impl_isSystem.l2 k l a (rd l a) b l l.length a = some (tf ((∀ b' : Int, b ≤ b' → b' < rd l a → a ≤ rd l b' ∧ rd l b' ≤ rd l a) ∧ NoCross l.length (rd l) (a + 1)))) := by
  have hq := hA a ha hal
  obtain ⟨K1, h1⟩ := h1
  have out : ∀ b : Int, a < b → ¬ b < rd l a → (∃ K, ∀ k, K ≤ k → impl_isSystem.l2 k l a (rd l a) b l l.length a = some (tf ((∀ b' : Int, b ≤ b' → b' < rd l a → a ≤ rd l b' ∧ rd l b' ≤ rd l a) ∧ NoCross l.length (rd l) (a + 1)))) := by
    intro b hb hlt
    refine ev_rs K1 fun m hm => ?_
    simp (disch := omega) only [impl_isSystem.l2, if_neg, w64]
    rw [h1 m hm]
    congr 1
    exact tf_c ⟨fun h => ⟨fun b' _ _ => by omega, h⟩, fun h => h.2⟩
  induction d with
  | zero =>
    intro b hb hd
    exact out b hb (by omega)
  | succ d ih =>
    intro b hb hd
    by_cases hlt : b < rd l a
    · obtain ⟨K, ih⟩ := ih (b + 1) (by omega) (by omega)
      by_cases he : a ≤ rd l b ∧ rd l b ≤ rd l a
      · refine ev_rs K fun m hm => ?_
        simp (disch := omega) only [impl_isSystem.l2, if_pos, w64, in_any, Option.bind_some]
        rw [decide_eq_true he]
        simp only [if_true]
        rw [ih m hm]
        congr 1
        refine tf_c ⟨fun h => ⟨fun b' h2 h3 => ?_, h.2⟩, fun h => ⟨fun b' h2 h3 => h.1 b' (by omega) h3, h.2⟩⟩
        by_cases e : b' = b
        · rw [e]; exact he
        · exact h.1 b' (by omega) h3
      · refine ev_rs 0 fun m hm => ?_
        simp (disch := omega) only [impl_isSystem.l2, if_pos, in_any, Option.bind_some]
        rw [decide_eq_false he, tf_f]
        · simp
        · exact fun h => he (h.1 b (Int.le_refl _) hlt)
    · exact out b hb hlt
theorem isSystem_l1 (l : List Int) (hn : l.length < 4611686018427387904) (hA : AllIn l.length (rd l) 0) (d : Nat) : ∀ a : Int, 0 ≤ a → (l.length : Int) - a ≤ d →
    (∃ K, ∀ k, K ≤ k → impl_isSystem.l1 k l l l.length a = some (tf (NoCross l.length (rd l) a))) := by
  have out : ∀ a : Int, ¬ a < l.length → (∃ K, ∀ k, K ≤ k → impl_isSystem.l1 k l l l.length a = some (tf (NoCross l.length (rd l) a))) := by
    intro a hlt
    refine ev_rs 0 fun m hm => ?_
    simp (disch := omega) only [impl_isSystem.l1, if_neg]
    rw [tf_t]
    intro a' b h1 h2; omega
  induction d with
  | zero => intro a h0 hd; exact out a (by omega)
  | succ d ih =>
    intro a h0 hd
    by_cases hlt : a < (l.length : Int)
    · have h1 := ih (a + 1) (by omega) (by omega)
      have hq := hA a h0 hlt
      obtain ⟨K, h2⟩ := isSystem_l2 l hn a h0 hlt hA h1 (rd l a - (a + 1)).toNat (a + 1) (by omega) (by omega)
      refine ev_rs K fun m hm => ?_
      simp (disch := omega) only [impl_isSystem.l1, if_pos, w64]
      rw [h2 m hm]
      congr 1
      refine tf_c ⟨fun h a' b h3 h4 h5 h6 => ?_, fun h => ⟨fun b' h3 h4 => h a b' (Int.le_refl _) hlt (by omega) h4, fun a' b h3 h4 h5 h6 => h a' b (by omega) h4 h5 h6⟩⟩
      by_cases e : a' = a
      · subst e; exact h.1 b (by omega) h6
      · exact h.2 a' b (by omega) h4 h5 h6
    · exact out a hlt
theorem isSystem_l0 (l : List Int) (hn : l.length < 4611686018427387904) (d : Nat) : ∀ i : Int, 0 ≤ i → (l.length : Int) - i ≤ d → (∀ j : Int, 0 ≤ j → j < i → 0 ≤ rd l j ∧ rd l j < l.length ∧ rd l j ≠ j ∧ rd l (rd l j) = j) →
    (∃ K, ∀ k, K ≤ k → impl_isSystem.l0 k l l l.length i = some (tf (AllIn l.length (rd l) i ∧ NoCross l.length (rd l) 0))) := by
  have out : ∀ i : Int, 0 ≤ i → ¬ i < l.length → (∀ j : Int, 0 ≤ j → j < i → 0 ≤ rd l j ∧ rd l j < l.length ∧ rd l j ≠ j ∧ rd l (rd l j) = j) → (∃ K, ∀ k, K ≤ k → impl_isSystem.l0 k l l l.length i = some (tf (AllIn l.length (rd l) i ∧ NoCross l.length (rd l) 0))) := by
    intro i h0 hlt hp
    obtain ⟨K, h1⟩ := isSystem_l1 l hn (fun j h1 h2 => hp j h1 (by omega)) l.length 0 (by omega) (by omega)
    refine ev_rs K fun m hm => ?_
    simp (disch := omega) only [impl_isSystem.l0, if_neg]
    rw [h1 m hm]
    congr 1
    exact tf_c ⟨fun h => ⟨fun j _ _ => by omega, h⟩, fun h => h.2⟩
  induction d with
  | zero => intro i h0 hd hp; exact out i h0 (by omega) hp
  | succ d ih =>
    intro i h0 hd hp
    by_cases hlt : i < (l.length : Int)
    · by_cases hr : 0 ≤ rd l i ∧ rd l i ≤ (l.length : Int) - 1
      · by_cases hs : rd l i = i
        · refine ev_rs 0 fun m hm => ?_
          simp (disch := omega) only [impl_isSystem.l0, if_pos, w64, in_any, Option.bind_some]
          rw [decide_eq_true hr, tf_f]
          · simp [hs]
          · exact fun h => (h.1 i (Int.le_refl _) hlt).2.2.1 hs
        · by_cases hi : rd l (rd l i) = i
          · obtain ⟨K, ih⟩ := ih (i + 1) (by omega) (by omega) (fun j h1 h2 => by
              by_cases e : j = i
              · subst e; exact ⟨by omega, by omega, hs, hi⟩
              · exact hp j h1 (by omega))
            refine ev_rs K fun m hm => ?_
            simp (disch := omega) only [impl_isSystem.l0, if_pos, if_neg, w64, in_any, Option.bind_some]
            rw [decide_eq_true hr, if_pos rfl, ih m hm]
            congr 1
            refine tf_c ⟨fun h => ⟨fun j h1 h2 => ?_, h.2⟩, fun h => ⟨fun j h1 h2 => h.1 j (by omega) h2, h.2⟩⟩
            by_cases e : j = i
            · subst e; exact ⟨by omega, by omega, hs, hi⟩
            · exact h.1 j (by omega) h2
          · refine ev_rs 0 fun m hm => ?_
            simp (disch := omega) only [impl_isSystem.l0, if_pos, if_neg, w64, in_any, Option.bind_some]
            rw [decide_eq_true hr, tf_f]
            · simp
            · exact fun h => hi (h.1 i (Int.le_refl _) hlt).2.2.2
      · refine ev_rs 0 fun m hm => ?_
        simp (disch := omega) only [impl_isSystem.l0, if_pos, w64, in_any, Option.bind_some]
        rw [decide_eq_false hr, tf_f]
        · simp
        · exact fun h => hr (by have := h.1 i (Int.le_refl _) hlt; omega)
    · exact out i h0 hlt hp
/-- Is a list a system of at most six arches? -/
noncomputable def sysB (l : List Int) : Bool := tf (l.length ≤ 12 ∧ Pl.Sys l.length (rd l))
theorem isSystem_any (l : List Int) (hn : l.length < 4611686018427387904) : (∃ K, ∀ k, K ≤ k → impl_isSystem.f k l = some (tf (Pl.Sys l.length (rd l)))) := by
  obtain ⟨K, h⟩ := isSystem_l0 l hn l.length 0 (by omega) (by omega) (fun j _ _ => by omega)
  refine ⟨K, fun k hk => ?_⟩
  unfold impl_isSystem.f
  rw [h k hk]
  exact congrArg _ (tf_c sys_of.symm)
theorem IsSystem_any (l : List Int) (hn : l.length < 4611686018427387904) : (∃ K, ∀ k, K ≤ k → impl_IsSystem.f k l = some (sysB l)) := by
  obtain ⟨K, h⟩ := isSystem_any l hn
  refine ⟨K, fun k hk => ?_⟩
  unfold impl_IsSystem.f sysB
  by_cases h12 : (l.length : Int) ≤ 12
  · rw [if_pos h12, h k hk]
    exact congrArg _ (tf_c ⟨fun h => ⟨by omega, h⟩, fun h => h.2⟩)
  · rw [if_neg h12, tf_f]
    exact fun h => h12 (by omega)

theorem l1All_l (l : List Int) (hn : l.length < 4611686018427387904) (lo hi : Int) (d : Nat) : ∀ i : Int, 0 ≤ i → (l.length : Int) - i ≤ d →
    (∃ K, ∀ k, K ≤ k → spec_l1All.l0 k lo hi l l.length i = some (tf (∀ j : Int, i ≤ j → j < l.length → lo ≤ rd l j ∧ rd l j ≤ hi))) := by
  have out : ∀ i : Int, ¬ i < l.length → (∃ K, ∀ k, K ≤ k → spec_l1All.l0 k lo hi l l.length i = some (tf (∀ j : Int, i ≤ j → j < l.length → lo ≤ rd l j ∧ rd l j ≤ hi))) := by
    intro i hlt
    refine ev_rs 0 fun m hm => ?_
    simp (disch := omega) only [spec_l1All.l0, if_neg]
    rw [tf_t]
    intro j h1 h2; omega
  induction d with
  | zero => intro i h0 hd; exact out i (by omega)
  | succ d ih =>
    intro i h0 hd
    by_cases hlt : i < (l.length : Int)
    · obtain ⟨K, ih⟩ := ih (i + 1) (by omega) (by omega)
      by_cases he : lo ≤ rd l i ∧ rd l i ≤ hi
      · refine ev_rs K fun m hm => ?_
        simp (disch := omega) only [spec_l1All.l0, if_pos, w64, l1In_any, Option.bind_some]
        rw [decide_eq_true he, if_pos rfl, ih m hm]
        congr 1
        refine tf_c ⟨fun h j h1 h2 => ?_, fun h j h1 h2 => h j (by omega) h2⟩
        by_cases e : j = i
        · rw [e]; exact he
        · exact h j (by omega) h2
      · refine ev_rs 0 fun m hm => ?_
        simp (disch := omega) only [spec_l1All.l0, if_pos, l1In_any, Option.bind_some]
        rw [decide_eq_false he, tf_f]
        · simp
        · exact fun h => he (h i (Int.le_refl _) hlt)
    · exact out i hlt
theorem l1All_any (l : List Int) (hn : l.length < 4611686018427387904) (lo hi : Int) : (∃ K, ∀ k, K ≤ k → spec_l1All.f k l lo hi = some (tf (∀ j : Int, 0 ≤ j → j < l.length → lo ≤ rd l j ∧ rd l j ≤ hi))) :=
  l1All_l l hn lo hi l.length 0 (by omega) (by omega)

/-! ### impl.IsPair, spec.mePair -/
noncomputable def pairB (l m : List Int) : Bool := sysB l && sysB m && decide (l.length = m.length)
theorem IsPair_any (l m : List Int) (hl : l.length < 4611686018427387904) (hm : m.length < 4611686018427387904) : (∃ K, ∀ k, K ≤ k → impl_IsPair.f k l m = some (pairB l m)) := by
  obtain ⟨K1, h1⟩ := IsSystem_any l hl
  obtain ⟨K2, h2⟩ := IsSystem_any m hm
  refine ⟨K1 + K2, fun k hk => ?_⟩
  simp (disch := omega) only [impl_IsPair.f, h1, h2, Option.bind_some, pairB]
  cases sysB l <;> cases sysB m <;> simp
  by_cases e : l.length = m.length
  · simp [e]
  · simp [e]; omega

/-! ### laws.eqMeander -/
theorem eqMeander_any (a b c d : List Int) (ha : a.length < 4611686018427387904) (hb : b.length < 4611686018427387904) : (∃ K, ∀ k, K ≤ k → laws_eqMeander.f k a b c d = some (decide (a = c ∧ b = d))) := by
  obtain ⟨K1, h1⟩ := eqIntS_any a c ha
  obtain ⟨K2, h2⟩ := eqIntS_any b d hb
  refine ⟨K1 + K2, fun k hk => ?_⟩
  simp (disch := omega) only [laws_eqMeander.f, h1, h2, Option.bind_some]
  by_cases e1 : a = c <;> by_cases e2 : b = d <;> simp [e1, e2]

/-! ### laws.markMeander, laws.heldMeander -/
theorem markM_any (l m : List Int) (a : Int) (ha : 0 ≤ a) (hb : a + l.length + m.length < 1152921504606846976) :
    ∃ y z, (∃ K, ∀ k, K ≤ k → laws_markMeander.f k l m a = some ((a + l.length + m.length, y, z))) ∧ y.length = l.length ∧ z.length = m.length ∧ (∃ K, ∀ k, K ≤ k → laws_heldMeander.f k y z a = some (a + l.length + m.length)) := by
  obtain ⟨y, ⟨K1, h1⟩, hy, ⟨K2, h2⟩⟩ := marks_any l a ha (by omega)
  obtain ⟨z, ⟨K3, h3⟩, hz, ⟨K4, h4⟩⟩ := marks_any m (a + l.length) (by omega) (by omega)
  refine ⟨y, z, ⟨K1 + K3, fun k hk => ?_⟩, hy, hz, ⟨K2 + K4, fun k hk => ?_⟩⟩
  · simp (disch := omega) only [laws_markMeander.f, h1, h3, Option.bind_some]
  · simp (disch := omega) only [laws_heldMeander.f, h2, h4, Option.bind_some, if_neg]

/-! ### impl.parseSystem, spec.ahParse: both read a text from left to right -/
/-- What both loops come to: none where a letter does not fit; else the list so far and the points that are open. -/
def pz : Nat → ByteArray → List Int → List Int → Int → Option (List Int × List Int)
  | 0, _, out, op, _ => some (out, op)
  | d + 1, s, out, op, i =>
    if bt s i = 40 then pz d s out (op ++ [i]) (i + 1)
    else if bt s i = 41 ∧ (op.length : Int) > 0 then
      pz d s ((out.set (rd op ((op.length : Int) - 1)).toNat i).set i.toNat (rd op ((op.length : Int) - 1))) (op.take (op.length - 1)) (i + 1)
    else none
/-- The open points lie ahead of a place. -/
def OpenOk (op : List Int) (i : Int) : Prop := (∀ x ∈ op, 0 ≤ x ∧ x < i) ∧ (op.length : Int) ≤ i
theorem OpenOk.push {op : List Int} {i : Int} (h : OpenOk op i) (h0 : 0 ≤ i) : OpenOk (op ++ [i]) (i + 1) := by
  refine ⟨fun x hx => ?_, by simp; exact h.2⟩
  rcases List.mem_append.1 hx with hx | hx
  · have := h.1 x hx; omega
  · have : x = i := by simpa using hx
    omega
theorem OpenOk.pop {op : List Int} {i : Int} (h : OpenOk op i) : OpenOk (op.take (op.length - 1)) (i + 1) := by
  refine ⟨fun x hx => ?_, by simp; have := h.2; omega⟩
  have := h.1 x (List.mem_of_mem_take hx); omega
theorem OpenOk.last {op : List Int} {i : Int} (h : OpenOk op i) (hl : (op.length : Int) > 0) : 0 ≤ rd op ((op.length : Int) - 1) ∧ rd op ((op.length : Int) - 1) < i :=
  h.1 _ (rd_mem op _ (by omega) (by omega))
def pzOut : Option (List Int × List Int) → List Int × Bool
  | none => ([], false)
  | some (o, op) => if op.length = 0 then (o, true) else ([], false)
def pzImpl : Option (List Int × List Int) → List Int × Bool
  | none => ([], false)
  | some (o, op) => (o, decide (op.length = 0))
theorem pz_length (s : ByteArray) (d : Nat) : ∀ (out op : List Int) (i : Int) o p, pz d s out op i = some (o, p) → o.length = out.length := by
  induction d with
  | zero => intro out op i o p h; simp [pz] at h; rw [h.1]
  | succ d ih =>
    intro out op i o p h
    unfold pz at h
    split at h
    · exact ih _ _ _ _ _ h
    · split at h
      · have := ih _ _ _ _ _ h
        simpa using this
      · cases h
theorem ahParse_l (s : ByteArray) (hs : s.size ≤ 1048576) (d : Nat) : ∀ (out op : List Int) (i : Int), 0 ≤ i → (s.size : Int) = i + d → out.length = s.size → OpenOk op i →
    (∃ K, ∀ k, K ≤ k → spec_ahParse.l0 k s out op i = some (pzOut (pz d s out op i))) := by
  induction d with
  | zero =>
    intro out op i h0 hd ho hop
    refine ev_rs 0 fun m _ => ?_
    simp (disch := omega) only [spec_ahParse.l0, if_neg, pz, pzOut]
    by_cases h : (op.length : Int) > 0
    · rw [if_pos h, if_neg (by omega)]
    · rw [if_neg h, if_pos (by omega)]
  | succ d ih =>
    intro out op i h0 hd ho hop
    have hol := hop.2
    by_cases h40 : bt s i = 40
    · obtain ⟨K, ih⟩ := ih out (op ++ [i]) (i + 1) (by omega) (by omega) ho (hop.push h0)
      refine ev_rs K fun m hm => ?_
      simp (disch := omega) only [spec_ahParse.l0, if_pos, if_neg, w64, pz]
      exact ih m hm
    · by_cases h41 : bt s i = 41 ∧ (op.length : Int) > 0
      · obtain ⟨g0, g1⟩ := hop.last h41.2
        obtain ⟨K, ih⟩ := ih ((out.set (rd op ((op.length : Int) - 1)).toNat i).set i.toNat (rd op ((op.length : Int) - 1))) (op.take (op.length - 1)) (i + 1) (by omega) (by omega) (by simpa using ho) hop.pop
        refine ev_rs K fun m hm => ?_
        have e : ((op.length : Int) - 1).toNat = op.length - 1 := by omega
        simp (disch := omega) only [spec_ahParse.l0, if_pos, if_neg, w64, pz]
        rw [e]
        exact ih m hm
      · refine ev_rs 0 fun m hm => ?_
        simp (disch := omega) only [spec_ahParse.l0, if_pos, if_neg, w64, pz, pzOut]
        simp
theorem ahParse_any (s : ByteArray) (hs : s.size ≤ 1048576) : (∃ K, ∀ k, K ≤ k → spec_ahParse.f k s = some (if (s.size : Int) > 12 then ([], false) else pzOut (pz s.size s (List.replicate s.size 0) [] 0))) := by
  obtain ⟨K, h⟩ := ahParse_l s hs s.size (List.replicate s.size 0) [] 0 (by omega) (by omega) (by simp) ⟨by simp, by simp⟩
  refine ⟨K, fun k hk => ?_⟩
  unfold spec_ahParse.f
  split
  · rfl
  · rw [if_pos (by omega), if_pos (by omega)]
    simpa using h k hk
theorem parseSystem_l (s : ByteArray) (hs : s.size ≤ 1048576) (d : Nat) : ∀ (out op : List Int) (i : Int), 0 ≤ i → (s.size : Int) = i + d → out.length = s.size → OpenOk op i →
    (∃ K, ∀ k, K ≤ k → impl_parseSystem.l0 k s out op s.size i = some (pzImpl (pz d s out op i))) := by
  induction d with
  | zero =>
    intro out op i h0 hd ho hop
    refine ev_rs 0 fun m _ => ?_
    simp (disch := omega) only [impl_parseSystem.l0, if_neg, pz, pzImpl]
    congr 2
    by_cases h : op.length = 0
    · simp [h]
    · simp [h]
  | succ d ih =>
    intro out op i h0 hd ho hop
    have hol := hop.2
    by_cases h40 : bt s i = 40
    · obtain ⟨K, ih⟩ := ih out (op ++ [i]) (i + 1) (by omega) (by omega) ho (hop.push h0)
      refine ev_rs K fun m hm => ?_
      simp (disch := omega) only [impl_parseSystem.l0, if_pos, if_neg, w64, pz]
      exact ih m hm
    · by_cases h41 : bt s i = 41 ∧ (op.length : Int) > 0
      · obtain ⟨g0, g1⟩ := hop.last h41.2
        obtain ⟨K, ih⟩ := ih ((out.set (rd op ((op.length : Int) - 1)).toNat i).set i.toNat (rd op ((op.length : Int) - 1))) (op.take (op.length - 1)) (i + 1) (by omega) (by omega) (by simpa using ho) hop.pop
        refine ev_rs K fun m hm => ?_
        have e : ((op.length : Int) - 1).toNat = op.length - 1 := by omega
        simp (disch := omega) only [impl_parseSystem.l0, if_pos, if_neg, w64, pz]
        rw [e]
        rw [List.set_comm _ _ (by omega)]
        exact ih m hm
      · refine ev_rs 0 fun m hm => ?_
        simp (disch := omega) only [impl_parseSystem.l0, if_pos, if_neg, w64, pz, pzImpl]
        simp
theorem parseSystem_any (s : ByteArray) (hs : s.size ≤ 1048576) : (∃ K, ∀ k, K ≤ k → impl_parseSystem.f k s = some (pzImpl (pz s.size s (List.replicate s.size 0) [] 0))) := by
  obtain ⟨K, h⟩ := parseSystem_l s hs s.size (List.replicate s.size 0) [] 0 (by omega) (by omega) (by simp) ⟨by simp, by simp⟩
  refine ⟨K, fun k hk => ?_⟩
  unfold impl_parseSystem.f
  rw [if_pos (by omega), if_pos (by omega)]
  simpa using h k hk
theorem pz_both (x : Option (List Int × List Int)) : (if (pzImpl x).2 = true then ((pzImpl x).1, true) else ([], false)) = pzOut x := by
  rcases x with _ | ⟨o, op⟩
  · rfl
  · by_cases h : op.length = 0 <;> simp [pzImpl, pzOut, h]

/-- What both tell of a text. -/
def parsed (s : ByteArray) : List Int × Bool := if (s.size : Int) > 12 then ([], false) else pzOut (pz s.size s (List.replicate s.size 0) [] 0)
theorem parsed_length (s : ByteArray) : (parsed s).1.length ≤ 12 := by
  unfold parsed
  split
  · simp
  · cases h : pz s.size s (List.replicate s.size 0) [] 0 with
    | none => simp [pzOut]
    | some x =>
      have := pz_length _ _ _ _ _ _ _ h
      unfold pzOut
      simp only
      split
      · simp at this; simp; omega
      · simp

/-! ### A text with a bar -/
theorem ixb_cases (c : UInt8) : ∀ l : List UInt8, (Go.Lib.indexByte l c = -1 ∧ ∀ j (h : j < l.length), l[j] ≠ c) ∨
    ∃ i : Nat, Go.Lib.indexByte l c = (i : Int) ∧ ∃ h : i < l.length, l[i] = c ∧ ∀ j (hj : j < i), l[j]'(by omega) ≠ c
  | [] => .inl ⟨rfl, fun j h => absurd h (by simp)⟩
  | b :: l => by
    unfold Go.Lib.indexByte
    by_cases hb : (b == c) = true
    · rw [if_pos hb]
      exact .inr ⟨0, rfl, by simp, by simpa using hb, fun j hj => absurd hj (by omega)⟩
    · rw [if_neg hb]
      have hb' : b ≠ c := by simpa using hb
      rcases ixb_cases c l with ⟨e, hn⟩ | ⟨i, e, hi, hc, hn⟩
      · refine .inl ⟨by rw [e]; rfl, fun j h => ?_⟩
        rcases j with _ | j
        · exact hb'
        · simpa using hn j (by simpa using h)
      · refine .inr ⟨i + 1, ?_, by simpa using hi, by simpa using hc, fun j hj => ?_⟩
        · rw [e, if_neg (by first | (simp; done) | (simp; omega))]; try omega
        · rcases j with _ | j
          · exact hb'
          · simpa using hn j (by omega)
theorem size_data (s : ByteArray) : s.data.toList.length = s.size := Array.length_toList
theorem bt_data (s : ByteArray) (i : Nat) (h : i < s.data.toList.length) : bt s (i : Int) = ((s.data.toList[i]).toNat : Int) := by
  have hs : i < s.size := by rw [← size_data]; exact h
  unfold bt
  rw [dif_pos (show ((i : Nat) : Int).toNat < s.size by omega)]
  rfl
theorem bt_bar (s : ByteArray) (i : Nat) (h : i < s.data.toList.length) : bt s (i : Int) = 124 ↔ s.data.toList[i] = 124 := by
  rw [bt_data s i h]
  constructor
  · intro e
    apply UInt8.toNat_inj.1
    show _ = 124
    omega
  · intro e; rw [e]; rfl
/-- The first bar of a text, or none. -/
theorem bar_cases (s : ByteArray) : (Go.Lib.indexByte s.data.toList 124 = -1 ∧ ∀ j : Int, 0 ≤ j → j < s.size → bt s j ≠ 124) ∨
    ∃ i : Int, Go.Lib.indexByte s.data.toList 124 = i ∧ 0 ≤ i ∧ i < s.size ∧ bt s i = 124 ∧ ∀ j : Int, 0 ≤ j → j < i → bt s j ≠ 124 := by
  have hz := size_data s
  rcases ixb_cases 124 s.data.toList with ⟨e, hn⟩ | ⟨i, e, hi, hc, hn⟩
  · refine .inl ⟨e, fun j h0 h1 hb => ?_⟩
    obtain ⟨n, rfl⟩ := Int.eq_ofNat_of_zero_le h0
    exact hn n (by omega) ((bt_bar s n (by omega)).1 hb)
  · refine .inr ⟨i, e, by omega, by omega, (bt_bar s i hi).2 hc, fun j h0 h1 hb => ?_⟩
    obtain ⟨n, rfl⟩ := Int.eq_ofNat_of_zero_le h0
    exact hn n (by omega) ((bt_bar s n (by omega)).1 hb)
theorem first_bar (s : ByteArray) (n : Int) (d : Nat) : ∀ a : Int, n = a + d → (∀ j : Int, a ≤ j → j < n → bt s j ≠ 124) ∨ ∃ i : Int, a ≤ i ∧ i < n ∧ bt s i = 124 ∧ ∀ j : Int, a ≤ j → j < i → bt s j ≠ 124 := by
  induction d with
  | zero => intro a ha; exact .inl fun j h1 h2 => absurd h1 (by omega)
  | succ d ih =>
    intro a ha
    by_cases hb : bt s a = 124
    · exact .inr ⟨a, by omega, by omega, hb, fun j h1 h2 => absurd h1 (by omega)⟩
    · rcases ih (a + 1) (by omega) with h | ⟨i, h1, h2, h3, h4⟩
      · exact .inl fun j h1 h2 => if e : j = a then e ▸ hb else h j (by omega) h2
      · exact .inr ⟨i, by omega, h2, h3, fun j g1 g2 => if e : j = a then e ▸ hb else h4 j (by omega) g2⟩
theorem pz_bar (s : ByteArray) (d : Nat) : ∀ (out op : List Int) (i j : Int), i ≤ j → j < i + d → bt s j = 124 → pz d s out op i = none := by
  induction d with
  | zero => intro out op i j h1 h2; omega
  | succ d ih =>
    intro out op i j h1 h2 hb
    unfold pz
    split
    · rename_i h
      exact ih _ _ _ j (by rcases Int.lt_or_eq_of_le h1 with g | g; omega; subst g; omega) (by omega) hb
    · split
      · rename_i h
        exact ih _ _ _ j (by rcases Int.lt_or_eq_of_le h1 with g | g; omega; subst g; omega) (by omega) hb
      · rfl

/-! ### The parts -/
theorem pairB_size {l m : List Int} (h : pairB l m = true) : l.length ≤ 12 ∧ l.length = m.length := by
  simp only [pairB, Bool.and_eq_true, decide_eq_true_eq] at h
  exact ⟨(tf_iff.1 h.1.1).1, h.2⟩
theorem pzI_length (s : ByteArray) : (pzImpl (pz s.size s (List.replicate s.size 0) [] 0)).1.length ≤ s.size ∧ ((pzImpl (pz s.size s (List.replicate s.size 0) [] 0)).2 = true → (pzImpl (pz s.size s (List.replicate s.size 0) [] 0)).1.length = s.size) := by
  cases h : pz s.size s (List.replicate s.size 0) [] 0 with
  | none => simp [pzImpl]
  | some x =>
    have := pz_length _ _ _ _ _ _ _ h
    simp at this
    simp [pzImpl, this]
noncomputable def mea2 (a b : List Int × Bool) : List Int × List Int × Bool := if a.2 = true ∧ b.2 = true ∧ pairB a.1 b.1 = true then (a.1, b.1, true) else ([], [], false)
theorem mea2_length (a b : List Int × Bool) : (mea2 a b).1.length ≤ 12 ∧ (mea2 a b).2.1.length ≤ 12 := by
  unfold mea2
  split
  · rename_i h
    obtain ⟨h1, h2⟩ := pairB_size h.2.2
    simp only; omega
  · simp
theorem mea2_parsed (p q : ByteArray) : mea2 (parsed p) (parsed q) = mea2 (pzImpl (pz p.size p (List.replicate p.size 0) [] 0)) (pzImpl (pz q.size q (List.replicate q.size 0) [] 0)) := by
  obtain ⟨_, lp⟩ := pzI_length p
  obtain ⟨_, lq⟩ := pzI_length q
  unfold parsed
  rw [← pz_both, ← pz_both]
  generalize pzImpl (pz p.size p (List.replicate p.size 0) [] 0) = a at *
  generalize pzImpl (pz q.size q (List.replicate q.size 0) [] 0) = b at *
  by_cases h : a.2 = true ∧ b.2 = true ∧ pairB a.1 b.1 = true
  · obtain ⟨h1, h2⟩ := pairB_size h.2.2
    have := lp h.1
    have := lq h.2.1
    rw [if_neg (show ¬ (p.size : Int) > 12 by omega), if_neg (show ¬ (q.size : Int) > 12 by omega), if_pos h.1, if_pos h.2.1]
    simp only [mea2, if_pos h, if_pos h.2.2, true_and]
  · conv => rhs; rw [mea2, if_neg h]
    rw [mea2, if_neg]
    intro g
    obtain ⟨g1, g2, g3⟩ := g
    split at g1
    · simp at g1
    · split at g1
      · split at g2
        · simp at g2
        · split at g2
          · rename_i e1 e2 e3 e4
            rw [if_neg e1, if_pos e2, if_neg e3, if_pos e4] at g3
            exact h ⟨e2, e4, g3⟩
          · simp at g2
      · simp at g1

theorem PM_impl (s p q : ByteArray) (is : Bool) (hp : p.size ≤ 1048576) (hq : q.size ≤ 1048576) (h : strings_Cut.f s (⟨#[124]⟩ : ByteArray) = some (p, q, is)) :
    (∃ K, ∀ k, K ≤ k → impl_ParseMeander.f k s = some (if is = true then mea2 (pzImpl (pz p.size p (List.replicate p.size 0) [] 0)) (pzImpl (pz q.size q (List.replicate q.size 0) [] 0)) else ([], [], false))) := by
  obtain ⟨K1, h1⟩ := parseSystem_any p hp
  obtain ⟨K2, h2⟩ := parseSystem_any q hq
  obtain ⟨lp, _⟩ := pzI_length p
  obtain ⟨lq, _⟩ := pzI_length q
  generalize pzImpl (pz p.size p (List.replicate p.size 0) [] 0) = a at *
  generalize pzImpl (pz q.size q (List.replicate q.size 0) [] 0) = b at *
  obtain ⟨K3, h3⟩ := IsPair_any a.1 b.1 (by omega) (by omega)
  refine ⟨K1 + K2 + K3, fun k hk => ?_⟩
  unfold impl_ParseMeander.f
  rw [h, Option.bind_some]
  simp only []
  rw [h1 k (by omega), Option.bind_some, h2 k (by omega), Option.bind_some]
  cases is
  · simp
  · rw [if_pos rfl, if_pos rfl]
    unfold mea2
    by_cases ha : a.2 = true
    · by_cases hb : b.2 = true
      · rw [if_pos ha, if_pos hb, h3 k (by omega), Option.bind_some]
        by_cases c : pairB a.1 b.1 = true
        · rw [if_pos c, if_pos ⟨ha, hb, c⟩]
        · rw [if_neg c, if_neg (fun g => c g.2.2)]
      · rw [if_pos ha, if_neg hb, if_neg (fun g => hb g.2.1)]
    · rw [if_neg ha, if_neg (fun g => ha g.1)]

/-! ### A text that parses is a system's: by a table over all texts, left to right -/
def sysD (l : List Int) : Bool := (List.range l.length).all fun i => decide (0 ≤ rd l (i : Nat)) && decide (rd l (i : Nat) < (l.length : Nat)) && !(rd l (i : Nat) == ((i : Nat) : Int)) && (rd l (rd l (i : Nat)) == ((i : Nat) : Int)) &&
  (List.range l.length).all fun b => !(decide (i < b)) || !(decide (((b : Nat) : Int) < rd l (i : Nat))) || (decide (((i : Nat) : Int) ≤ rd l (b : Nat)) && decide (rd l (b : Nat) ≤ rd l (i : Nat)))
theorem sysD_sysB {l : List Int} (hl : l.length ≤ 12) (h : sysD l = true) : sysB l = true := by
  have H : ∀ i : Nat, i < l.length → (0 ≤ rd l (i : Nat) ∧ rd l (i : Nat) < (l.length : Nat) ∧ rd l (i : Nat) ≠ ((i : Nat) : Int) ∧ rd l (rd l (i : Nat)) = ((i : Nat) : Int)) ∧
      ∀ b : Nat, b < l.length → i < b → ((b : Nat) : Int) < rd l (i : Nat) → ((i : Nat) : Int) ≤ rd l (b : Nat) ∧ rd l (b : Nat) ≤ rd l (i : Nat) := by
    intro i hi
    have g := List.all_eq_true.1 h i (List.mem_range.2 hi)
    simp only [Bool.and_eq_true, decide_eq_true_eq, beq_iff_eq, Bool.not_eq_true', beq_eq_false_iff_ne, List.all_eq_true, List.mem_range, Bool.or_eq_true, decide_eq_false_iff_not] at g
    obtain ⟨⟨⟨⟨g1, g2⟩, g3⟩, g4⟩, g5⟩ := g
    refine ⟨⟨g1, g2, g3, g4⟩, fun b hb h1 h2 => ?_⟩
    rcases g5 b hb with (h | h) | h
    · exact absurd h1 h
    · exact absurd h2 h
    · exact h
  unfold sysB
  refine tf_t ⟨hl, ?_⟩
  have N : ∀ i : Int, 0 ≤ i → i < (l.length : Nat) → ∃ n : Nat, i = (n : Int) ∧ n < l.length := fun i h0 h1 => ⟨i.toNat, by omega, by omega⟩
  constructor
  · intro i h0 h1; obtain ⟨n, rfl, hn⟩ := N i h0 h1; exact (H n hn).1.1
  · intro i h0 h1; obtain ⟨n, rfl, hn⟩ := N i h0 h1; exact (H n hn).1.2.1
  · intro i h0 h1; obtain ⟨n, rfl, hn⟩ := N i h0 h1; exact (H n hn).1.2.2.1
  · intro i h0 h1; obtain ⟨n, rfl, hn⟩ := N i h0 h1; exact (H n hn).1.2.2.2
  · intro a b h0 h1 h2 h3
    obtain ⟨n, rfl, hn⟩ := N a h0 h1
    have := (H n hn).1.2.1
    obtain ⟨c, rfl, hc⟩ := N b (by omega) (by omega)
    exact (H n hn).2 c hc (by omega) h3
def chk : Nat → List Int → List Int → Int → Bool
  | 0, out, op, _ => !(op.length == 0) || sysD out
  | d + 1, out, op, i => chk d out (op ++ [i]) (i + 1) &&
      (op.length == 0 || chk d ((out.set (rd op ((op.length : Int) - 1)).toNat i).set i.toNat (rd op ((op.length : Int) - 1))) (op.take (op.length - 1)) (i + 1))
theorem chk_pz (s : ByteArray) (d : Nat) : ∀ (out op : List Int) (i : Int) (o p : List Int), chk d out op i = true → pz d s out op i = some (o, p) → p.length = 0 → sysD o = true := by
  induction d with
  | zero =>
    intro out op i o p hc h hp
    unfold pz at h
    obtain ⟨rfl, rfl⟩ := Prod.mk.inj (Option.some.inj h)
    unfold chk at hc
    rw [hp] at hc
    simpa using hc
  | succ d ih =>
    intro out op i o p hc h hp
    unfold chk at hc
    rw [Bool.and_eq_true, Bool.or_eq_true] at hc
    unfold pz at h
    split at h
    · exact ih _ _ _ _ _ hc.1 h hp
    · split at h
      · rename_i e
        rcases hc.2 with g | g
        · have := beq_iff_eq.1 g; omega
        · exact ih _ _ _ _ _ g h hp
      · cases h
theorem chk_all : ((List.range 13).all fun n => chk n (List.replicate n 0) [] 0) = true := by decide +kernel
theorem parsed_sys (s : ByteArray) (h : (parsed s).2 = true) : sysB (parsed s).1 = true ∧ (parsed s).1.length = s.size := by
  unfold parsed at *
  split at h
  · cases h
  · rename_i hs
    rw [if_neg hs]
    have hc := List.all_eq_true.1 chk_all s.size (List.mem_range.2 (by omega))
    cases e : pz s.size s (List.replicate s.size 0) [] 0 with
    | none => rw [e] at h; cases h
    | some x =>
      obtain ⟨o, p⟩ := x
      rw [e] at h
      have hl := pz_length _ _ _ _ _ _ _ e
      rw [List.length_replicate] at hl
      by_cases hp : p.length = 0
      · have hd := chk_pz s s.size _ _ _ _ _ hc e hp
        simp only [pzOut, if_pos hp]
        exact ⟨sysD_sysB (by omega) hd, hl⟩
      · simp only [pzOut, if_neg hp] at h
        cases h
theorem mea2_same (p q : ByteArray) (h : p.size = q.size) : mea2 (parsed p) (parsed q) = if (parsed p).2 = true then (if (parsed q).2 = true then ((parsed p).1, (parsed q).1, true) else ([], [], false)) else ([], [], false) := by
  unfold mea2
  by_cases a : (parsed p).2 = true
  · by_cases b : (parsed q).2 = true
    · obtain ⟨a1, a2⟩ := parsed_sys p a
      obtain ⟨b1, b2⟩ := parsed_sys q b
      have : pairB (parsed p).1 (parsed q).1 = true := by
        simp only [pairB, a1, b1, a2, b2, Bool.and_self, Bool.true_and, decide_eq_true_eq]; exact h
      rw [if_pos ⟨a, b, this⟩, if_pos a, if_pos b]
    · rw [if_pos a, if_neg b, if_neg (fun g => b g.2.1)]
  · rw [if_neg a, if_neg (fun g => a g.1)]
/-! ### The texts of steps -/
def fT (x : Int) : Int := if x ≥ 2 then 41 else 40
def fB (x : Int) : Int := if Int.tmod x 2 = 1 then 41 else 40
theorem son_size (l : List Int) : (strOfNums l).size = l.length := by
  rw [← size_data]; simp [strOfNums]
theorem ba_ext {a b : ByteArray} (h : a.data.toList = b.data.toList) : a = b := by
  rcases a with ⟨⟨a⟩⟩
  rcases b with ⟨⟨b⟩⟩
  have : a = b := h
  rw [this]
theorem son_append (l : List Int) (x : Int) : strOfNums (l ++ [x]) = strOfNums l ++ strOfNums [x] := by
  apply ba_ext
  simp [strOfNums, ByteArray.data_append]
theorem ixb_app (c : UInt8) (b : List UInt8) : ∀ a : List UInt8, (∀ x ∈ a, x ≠ c) → Go.Lib.indexByte (a ++ c :: b) c = (a.length : Int)
  | [], _ => by simp [Go.Lib.indexByte]
  | x :: a, h => by
    have ih := ixb_app c b a (fun y hy => h y (List.mem_cons_of_mem _ hy))
    have hx : ¬ (x == c) = true := by simpa using h x (List.mem_cons_self ..)
    rw [List.cons_append, Go.Lib.indexByte, if_neg hx, ih, if_neg (by first | (simp; done) | (simp; omega))]
    simp
theorem cut_bar (p q : ByteArray) (hp : ∀ x ∈ p.data.toList, x ≠ 124) (h1 : p.size ≤ 1048576) (h2 : q.size ≤ 1048576) : strings_Cut.f ((p ++ (⟨#[124]⟩ : ByteArray)) ++ q) (⟨#[124]⟩ : ByteArray) = some (p, q, true) := by
  have hz : ((p ++ (⟨#[124]⟩ : ByteArray)) ++ q).size = p.size + 1 + q.size := by
    rw [ByteArray.size_append, ByteArray.size_append]; rfl
  have hd : ((p ++ (⟨#[124]⟩ : ByteArray)) ++ q).data.toList = p.data.toList ++ 124 :: q.data.toList := by
    simp [ByteArray.data_append]
  have e1 : (⟨#[124]⟩ : ByteArray).size = 1 := rfl
  have e2 : (⟨#[124]⟩ : ByteArray).data.toList.headD 0 = 124 := rfl
  have hl := size_data p
  have hlq := size_data q
  have e := ixb_app 124 q.data.toList p.data.toList hp
  rw [hl] at e
  unfold strings_Cut.f stringslite_Cut.f stringslite_Index.f
  rw [if_pos e1, e2, hd, e, Option.bind_some, e1, hz]
  simp (disch := omega) only [if_pos, w64]
  rw [Option.bind_some]
  have x1 : ((p ++ (⟨#[124]⟩ : ByteArray)) ++ q).extract 0 (((p.size : Nat) : Int)).toNat = p := by
    apply ba_ext
    rw [ByteArray.data_extract, Array.toList_extract, hd, Int.toNat_natCast, List.extract_eq_take_drop]
    simp [hl]
  have x2 : ((p ++ (⟨#[124]⟩ : ByteArray)) ++ q).extract (((p.size : Nat) : Int) + ((1 : Nat) : Int)).toNat (p.size + 1 + q.size) = q := by
    apply ba_ext
    rw [ByteArray.data_extract, Array.toList_extract, hd, show (((p.size : Nat) : Int) + ((1 : Nat) : Int)).toNat = p.size + 1 by omega, List.extract_eq_take_drop]
    rw [List.drop_append, List.drop_of_length_le (by omega), hl, show p.size + 1 - p.size = 1 by omega]
    simp
    exact List.take_of_length_le (by omega)
  rw [x1, x2]

def Small3 (l : List Int) : Prop := ∀ j : Int, 0 ≤ j → j < l.length → 0 ≤ rd l j ∧ rd l j ≤ 3
noncomputable def stR (l : List Int) : List Int × List Int × Bool :=
  if tf (l.length ≤ 12 ∧ Small3 l) = true then mea2 (parsed (strOfNums (l.map fT))) (parsed (strOfNums (l.map fB))) else ([], [], false)
theorem stR_length (l : List Int) : (stR l).1.length ≤ 12 ∧ (stR l).2.1.length ≤ 12 := by
  unfold stR
  split
  · exact mea2_length _ _
  · simp
theorem take_map (f : Int → Int) (l : List Int) (i : Int) (h0 : 0 ≤ i) (h1 : i < l.length) : (l.take i.toNat).map f ++ [f (rd l i)] = (l.take (i + 1).toNat).map f := by
  have e : (i + 1).toNat = i.toNat + 1 := by omega
  have hi : i.toNat < l.length := by omega
  rw [e, List.take_succ_eq_append_getElem hi, List.map_append, ← rd_get l i.toNat hi, show ((i.toNat : Nat) : Int) = i by omega]
  rfl
theorem son_one : strOfNums [41] = (⟨#[41]⟩ : ByteArray) ∧ strOfNums [40] = (⟨#[40]⟩ : ByteArray) ∧ strOfNums [] = (⟨#[]⟩ : ByteArray) := ⟨rfl, rfl, rfl⟩
theorem specPS_l (l : List Int) (hl : l.length ≤ 12) (ha : Small3 l) (d : Nat) : ∀ i : Int, 0 ≤ i → (l.length : Int) = i + d →
    (∃ K, ∀ k, K ≤ k → spec_PairOfSteps.l0 k (strOfNums ((l.take i.toNat).map fT)) (strOfNums ((l.take i.toNat).map fB)) l l.length i = some (stR l)) := by
  induction d with
  | zero =>
    intro i h0 hd
    rw [List.take_of_length_le (by omega)]
    have z1 := son_size (l.map fT)
    have z2 := son_size (l.map fB)
    rw [List.length_map] at z1 z2
    obtain ⟨K1, h1⟩ := ahParse_any (strOfNums (l.map fT)) (by omega)
    obtain ⟨K2, h2⟩ := ahParse_any (strOfNums (l.map fB)) (by omega)
    rw [← parsed] at h1 h2
    refine ev_rs (K1 + K2) fun m hm => ?_
    simp (disch := omega) only [spec_PairOfSteps.l0, if_neg, h1, h2, Option.bind_some]
    rw [stR, if_pos (tf_t ⟨hl, ha⟩), mea2_same _ _ (by omega)]
    split
    · split <;> rfl
    · rfl
  | succ d ih =>
    intro i h0 hd
    obtain ⟨K, ih⟩ := ih (i + 1) (by omega) (by omega)
    have z1 := son_size ((l.take i.toNat).map fT)
    have z2 := son_size ((l.take i.toNat).map fB)
    rw [List.length_map, List.length_take] at z1 z2
    rw [← take_map fT l i h0 (by omega), ← take_map fB l i h0 (by omega), son_append, son_append] at ih
    obtain ⟨s1, s2, _⟩ := son_one
    refine ev_rs K fun m hm => ?_
    have ih := ih m hm
    by_cases e1 : rd l i ≥ 2
    · by_cases e2 : Int.tmod (rd l i) 2 = 1
      · simp only [fT, fB, if_pos e1, if_pos e2, s1, s2] at ih
        simp (disch := omega) only [spec_PairOfSteps.l0, if_pos, w64]
        exact ih
      · simp only [fT, fB, if_pos e1, if_neg e2, s1, s2] at ih
        simp (disch := omega) only [spec_PairOfSteps.l0, if_pos, if_neg, w64]
        exact ih
    · by_cases e2 : Int.tmod (rd l i) 2 = 1
      · simp only [fT, fB, if_neg e1, if_pos e2, s1, s2] at ih
        simp (disch := omega) only [spec_PairOfSteps.l0, if_pos, if_neg, w64]
        exact ih
      · simp only [fT, fB, if_neg e1, if_neg e2, s1, s2] at ih
        simp (disch := omega) only [spec_PairOfSteps.l0, if_pos, if_neg, w64]
        exact ih
theorem specPS_any (l : List Int) (hl : l.length ≤ 1048576) : (∃ K, ∀ k, K ≤ k → spec_PairOfSteps.f k l = some (stR l)) := by
  by_cases h12 : (l.length : Int) > 12
  · refine ⟨1, fun k hk => ?_⟩
    obtain ⟨m, rfl⟩ : ∃ m, k = m + 1 := ⟨k - 1, by omega⟩
    rw [stR, if_neg (fun h => by have := (tf_iff.1 h).1; omega)]
    unfold spec_PairOfSteps.f
    rw [if_pos h12]
    simp [spec_PairOfSteps.j0]
  · obtain ⟨K1, h1⟩ := l1All_any l (by omega) 0 3
    by_cases ha : Small3 l
    · obtain ⟨K2, h2⟩ := specPS_l l (by omega) ha l.length 0 (by omega) (by omega)
      refine ⟨K1 + K2 + 1, fun k hk => ?_⟩
      obtain ⟨m, rfl⟩ : ∃ m, k = m + 1 := ⟨k - 1, by omega⟩
      unfold spec_PairOfSteps.f
      rw [if_neg h12, h1 _ (by omega), Option.bind_some, tf_t (P := ∀ j : Int, 0 ≤ j → j < l.length → 0 ≤ rd l j ∧ rd l j ≤ 3) ha]
      simp only [spec_PairOfSteps.j0, Bool.not_true, Bool.false_eq_true, if_false]
      exact h2 m (by omega)
    · refine ⟨K1 + 1, fun k hk => ?_⟩
      obtain ⟨m, rfl⟩ : ∃ m, k = m + 1 := ⟨k - 1, by omega⟩
      unfold spec_PairOfSteps.f
      rw [if_neg h12, h1 _ (by omega), Option.bind_some, tf_f (P := ∀ j : Int, 0 ≤ j → j < l.length → 0 ≤ rd l j ∧ rd l j ≤ 3) ha, stR, if_neg (fun h => ha (tf_iff.1 h).2)]
      simp only [spec_PairOfSteps.j0, Bool.not_false, if_true]
theorem bt_step (x : Int) (h0 : 0 ≤ x) (h1 : x ≤ 3) : 0 ≤ x / 2 ∧ x / 2 < 2 ∧ bt (⟨#[40, 41]⟩ : ByteArray) (x / 2) = fT x ∧ 0 ≤ Go.bits .and .i64 x 1 ∧ Go.bits .and .i64 x 1 < 2 ∧ bt (⟨#[40, 41]⟩ : ByteArray) (Go.bits .and .i64 x 1) = fB x := by
  have h : ∀ n : Fin 4, 0 ≤ ((n.val : Int)) / 2 ∧ ((n.val : Int)) / 2 < 2 ∧ bt (⟨#[40, 41]⟩ : ByteArray) ((n.val : Int) / 2) = fT n.val ∧ 0 ≤ Go.bits .and .i64 (n.val : Int) 1 ∧ Go.bits .and .i64 (n.val : Int) 1 < 2 ∧ bt (⟨#[40, 41]⟩ : ByteArray) (Go.bits .and .i64 (n.val : Int) 1) = fB n.val := by decide +kernel
  have := h ⟨x.toNat, by omega⟩
  rwa [show ((x.toNat : Nat) : Int) = x by omega] at this
theorem fT_or (x : Int) : fT x = 41 ∨ fT x = 40 := by unfold fT; split <;> simp
theorem son_nobar (l : List Int) : ∀ x ∈ (strOfNums (l.map fT)).data.toList, x ≠ 124 := by
  intro x hx
  rw [strOfNums_data, List.map_map, List.mem_map] at hx
  obtain ⟨y, _, rfl⟩ := hx
  show UInt8.ofNat (fT y).toNat ≠ 124
  rcases fT_or y with e | e <;> rw [e] <;> decide
theorem implPS_l (l : List Int) (hl : l.length ≤ 12) (d : Nat) : ∀ i : Int, 0 ≤ i → (l.length : Int) = i + d → (∀ j : Int, 0 ≤ j → j < i → 0 ≤ rd l j ∧ rd l j ≤ 3) →
    (∃ K, ∀ k, K ≤ k → impl_PairOfSteps.l0 k ((l.take i.toNat).map fT) ((l.take i.toNat).map fB) l l.length i = some (stR l)) := by
  induction d with
  | zero =>
    intro i h0 hd ha
    obtain rfl : i = l.length := by omega
    rw [List.take_of_length_le (by omega)]
    have z1 := son_size (l.map fT)
    have z2 := son_size (l.map fB)
    rw [List.length_map] at z1 z2
    have hb : (strOfNums (l.map fT) ++ (⟨#[124]⟩ : ByteArray)).size = l.length + 1 := by rw [ByteArray.size_append, z1]; rfl
    obtain ⟨K, h⟩ := PM_impl _ _ _ true (by omega) (by omega) (cut_bar (strOfNums (l.map fT)) (strOfNums (l.map fB)) (son_nobar l) (by omega) (by omega))
    rw [if_pos rfl, ← mea2_parsed] at h
    refine ev_rs K fun m hm => ?_
    simp (disch := omega) only [impl_PairOfSteps.l0, if_neg, if_pos, hb, h, Option.bind_some]
    rw [stR, if_pos (tf_t ⟨hl, ha⟩)]
  | succ d ih =>
    intro i h0 hd ha
    by_cases hx : 0 ≤ rd l i ∧ rd l i ≤ 3
    · obtain ⟨K, ih⟩ := ih (i + 1) (by omega) (by omega) (fun j h1 h2 => if e : j = i then e ▸ hx else ha j h1 (by omega))
      obtain ⟨b1, b2, b3, b4, b5, b6⟩ := bt_step (rd l i) hx.1 hx.2
      have t1 : (l.take i.toNat).length ≤ 12 := by rw [List.length_take]; omega
      rw [← take_map fT l i h0 (by omega), ← take_map fB l i h0 (by omega)] at ih
      have g1 : ((l.take i.toNat).map fT).length + ([fT (rd l i)] : List Int).length < 140737488355328 := by simp only [List.length_map, List.length_singleton]; omega
      have g2 : ((l.take i.toNat).map fB).length + ([fB (rd l i)] : List Int).length < 140737488355328 := by simp only [List.length_map, List.length_singleton]; omega
      refine ev_rs K fun m hm => ?_
      simp (disch := omega) only [impl_PairOfSteps.l0, if_pos, in_any, Option.bind_some, w64]
      rw [decide_eq_true hx]
      simp only [if_true, if_pos b1, if_pos b2, b3, Option.bind_some, if_pos g1, if_pos b4, if_pos b5, b6, if_pos g2]
      exact ih m hm
    · refine ev_rs 0 fun m hm => ?_
      simp (disch := omega) only [impl_PairOfSteps.l0, if_pos, in_any, Option.bind_some]
      have hR : stR l = ([], [], false) := by rw [stR, if_neg (fun h => hx ((tf_iff.1 h).2 i (by omega) (by omega)))]
      rw [decide_eq_false hx, hR]
      simp
theorem implPS_any (l : List Int) (hl : l.length ≤ 1048576) : (∃ K, ∀ k, K ≤ k → impl_PairOfSteps.f k l = some (stR l)) := by
  by_cases h12 : (l.length : Int) > 12
  · refine ⟨0, fun k hk => ?_⟩
    rw [stR, if_neg (fun h => by have := (tf_iff.1 h).1; omega)]
    unfold impl_PairOfSteps.f
    rw [if_pos h12]
  · obtain ⟨K, h⟩ := implPS_l l (by omega) l.length 0 (by omega) (by omega) (fun j h1 h2 => absurd h1 (by omega))
    refine ⟨K, fun k hk => ?_⟩
    unfold impl_PairOfSteps.f
    rw [if_neg h12]
    exact h k hk
theorem FnExactPairOfSteps : laws_FnExactPairOfSteps.Pure := by
  intro l hx_l _ _
  unfold maxLen at hx_l
  by_cases h_l : (l.length : Int) > 1048576
  · exact ⟨0, by simp [laws_FnExactPairOfSteps.f, h_l]⟩
  · skip
    obtain ⟨KTl, t_l⟩ := toIntS_any l (by omega)
    obtain ⟨KEl, e_l⟩ := eqIntS_any l l (by omega)
    obtain ⟨y_l, ⟨KMl, m_l⟩, _, _⟩ := marks_any l (1) (by omega) (by omega)
    obtain ⟨KI, hI⟩ := implPS_any l (by omega)
    obtain ⟨KS, hS⟩ := specPS_any l (by omega)
    have hp1 : ¬ (1 + l.length : Int) < 0 := by omega
    have hR := stR_length l
    obtain ⟨KR, hE⟩ := eqMeander_any (stR l).1 (stR l).2.1 (stR l).1 (stR l).2.1 (by omega) (by omega)
    obtain ⟨zz, zu, ⟨KZ, hM⟩, _, _, ⟨KH, hH⟩⟩ := markM_any (stR l).1 (stR l).2.1 1 (by omega) (by omega)
    have hp2 : ¬ (1 : Int) + (stR l).1.length + (stR l).2.1.length < 0 := by omega
    refine ⟨KTl + KEl + KMl + KI + KS + KR + KZ + KH + 6, ?_⟩
    simp (disch := omega) only [laws_FnExactPairOfSteps.f, Bool.false_eq_true, if_false, if_neg, t_l, e_l, m_l, hI, hS, hp1, hp2, hE, hM, hH, Option.bind_some, decide_true, if_true, bne_self_eq_false, and_self]
    simp (disch := omega) only [laws_FnExactPairOfSteps.j0, Bool.false_eq_true, if_false, if_neg, t_l, e_l, m_l, hI, hS, hp1, hp2, hE, hM, hH, Option.bind_some, decide_true, if_true, bne_self_eq_false, and_self]
    simp (disch := omega) only [laws_FnExactPairOfSteps.j1, Bool.false_eq_true, if_false, if_neg, t_l, e_l, m_l, hI, hS, hp1, hp2, hE, hM, hH, Option.bind_some, decide_true, if_true, bne_self_eq_false, and_self]
    simp (disch := omega) only [laws_FnExactPairOfSteps.j2, Bool.false_eq_true, if_false, if_neg, t_l, e_l, m_l, hI, hS, hp1, hp2, hE, hM, hH, Option.bind_some, decide_true, if_true, bne_self_eq_false, and_self]

end Go.Proofs.Ytbjdhipkdcfmlaa.Pure
