/- The law FnExactNextSystem returns true at every list of numbers: the program's NextSystem and the reference's tell the same, and what came in stays as it is. Conditions: none beyond the form's own. -/
import Derived.Test.YtpepnlcelllhkaaQFnExactNextSystemx7
import Derived.Test.YtpepnlcelllhkaaMyPl
namespace Go.Proofs.Ytpepnlcelllhkaa.Pure
open Go.RowKit Go.Proofs.Ytpepnlcelllhkaa.QFnExactNextSystem Go.Proofs.YtpepnlcelllhkaaW.PrintWords Go.Proofs.YtpepnlcelllhkaaW.PrintLast
set_option linter.unusedVariables false
set_option linter.unusedSimpArgs false

/-! ### Words of my own -/
theorem w64 {x : Int} (h1 : -9223372036854775808 ≤ x) (h2 : x < 9223372036854775808) : wrap64 x = x := by unfold wrap64; omega
theorem ev_rs {α : Type} {g : Nat → Option α} {r : α} (K : Nat) (h : ∀ m, K ≤ m → g (m + 1) = some r) : ∃ K, ∀ k, K ≤ k → g k = some r := by
  refine ⟨K + 1, fun k hk => ?_⟩
  obtain ⟨m, rfl⟩ : ∃ m, k = m + 1 := ⟨k - 1, by omega⟩
  exact h m (by omega)
noncomputable def tf (P : Prop) : Bool := @decide P (Classical.propDecidable P)
theorem tf_t {P : Prop} (h : P) : tf P = true := by unfold tf; simp [h]
theorem tf_f {P : Prop} (h : ¬ P) : tf P = false := by unfold tf; simp [h]
theorem tf_iff {P : Prop} : tf P = true ↔ P := by unfold tf; simp
theorem tf_c {P Q : Prop} (h : P ↔ Q) : tf P = tf Q := by rw [propext h]
theorem tf_d {P : Prop} [Decidable P] : tf P = decide P := by
  by_cases h : P
  · rw [tf_t h]; simp [h]
  · rw [tf_f h]; simp [h]
theorem rd_def (l : List Int) (i : Int) : rd l i = l.getD i.toNat 0 := rfl
theorem rd_set (l : List Int) (i j v : Int) (hi : 0 ≤ i) (hl : i < l.length) (hj : 0 ≤ j) : rd (l.set i.toNat v) j = if j = i then v else rd l j := by
  unfold rd
  simp only [List.getD_eq_getElem?_getD, List.getElem?_set]
  by_cases e : j = i
  · subst e
    rw [if_pos rfl, if_pos rfl, if_pos (by omega)]; rfl
  · rw [if_neg (by omega), if_neg e]
theorem rd_get (l : List Int) (i : Nat) (h : i < l.length) : rd l i = l[i] := by
  unfold rd
  rw [Int.toNat_natCast, List.getD_eq_getElem?_getD, List.getElem?_eq_getElem h]; rfl
theorem rd_ext {a b : List Int} (hl : a.length = b.length) (h : ∀ j : Int, 0 ≤ j → j < a.length → rd a j = rd b j) : a = b := by
  refine List.ext_getElem hl fun i h1 h2 => ?_
  have := h i (by omega) (by omega)
  rwa [rd_get a i h1, rd_get b i h2] at this
theorem rd_mem (l : List Int) (i : Int) (h0 : 0 ≤ i) (h : i < l.length) : rd l i ∈ l := by
  have e := rd_get l i.toNat (by omega)
  rw [show ((i.toNat : Nat) : Int) = i by omega] at e
  rw [e]; exact List.getElem_mem _

/-! ### laws.eqIntS, laws.toIntS -/
theorem eqIntS_l (a b : List Int) (hl : a.length = b.length) (hn : a.length < 4611686018427387904) (d : Nat) : ∀ i : Int, 0 ≤ i → (a.length : Int) - i ≤ d →
    (∃ K, ∀ k, K ≤ k → laws_eqIntS.l0 k a b i = some (tf (∀ j : Int, i ≤ j → j < a.length → rd a j = rd b j))) := by
  induction d with
  | zero =>
    intro i h0 hd
    refine ev_rs 0 fun m _ => ?_
    simp (disch := omega) only [laws_eqIntS.l0, if_neg]
    rw [tf_t]
    intro j h1 h2; omega
  | succ d ih =>
    intro i h0 hd
    by_cases hlt : i < (a.length : Int)
    · obtain ⟨K, ih⟩ := ih (i + 1) (by omega) (by omega)
      by_cases he : rd a i = rd b i
      · refine ev_rs K fun m hm => ?_
        simp (disch := omega) only [laws_eqIntS.l0, if_pos, w64]
        rw [ih m hm]
        congr 1
        refine tf_c ⟨fun h j h1 h2 => ?_, fun h j h1 h2 => h j (by omega) h2⟩
        by_cases e : j = i
        · rw [e]; exact he
        · exact h j (by omega) h2
      · refine ev_rs 0 fun m hm => ?_
        simp (disch := omega) only [laws_eqIntS.l0, if_pos]
        first | rw [if_neg he, tf_f] | rw [tf_f]
        exact fun h => he (h i (Int.le_refl _) hlt)
    · refine ev_rs 0 fun m _ => ?_
      simp (disch := omega) only [laws_eqIntS.l0, if_neg]
      rw [tf_t]
      intro j h1 h2; omega
theorem eqIntS_any (a b : List Int) (hn : a.length < 4611686018427387904) : (∃ K, ∀ k, K ≤ k → laws_eqIntS.f k a b = some (decide (a = b))) := by
  by_cases hl : a.length = b.length
  · obtain ⟨K, h⟩ := eqIntS_l a b hl hn a.length 0 (by omega) (by omega)
    refine ⟨K, fun k hk => ?_⟩
    unfold laws_eqIntS.f
    rw [if_pos (by omega), h k hk, ← tf_d]
    congr 1
    exact tf_c ⟨fun h => rd_ext hl fun j => h j, fun h j _ _ => by rw [h]⟩
  · refine ⟨0, fun k hk => ?_⟩
    unfold laws_eqIntS.f
    rw [if_neg (by omega)]
    congr 1
    exact (decide_eq_false fun h => hl (by rw [h])).symm

theorem toIntS_l (a : List Int) (hn : a.length < 4611686018427387904) (d : Nat) : ∀ (i : Int) (x : List Int), 0 ≤ i → (a.length : Int) - i ≤ d → x.length = a.length →
    (∀ j : Int, 0 ≤ j → j < i → rd x j = rd a j) → (∃ K, ∀ k, K ≤ k → laws_toIntS.l0 k a x i = some (a)) := by
  induction d with
  | zero =>
    intro i x h0 hd hl hx
    refine ev_rs 0 fun m _ => ?_
    simp (disch := omega) only [laws_toIntS.l0, if_neg]
    rw [rd_ext hl fun j h1 h2 => hx j h1 (by omega)]
  | succ d ih =>
    intro i x h0 hd hl hx
    by_cases hlt : i < (a.length : Int)
    · obtain ⟨K, ih⟩ := ih (i + 1) (x.set i.toNat (rd a i)) (by omega) (by omega) (by simp [hl]) (fun j h1 h2 => by
        rw [rd_set x i j _ h0 (by omega) h1]
        by_cases e : j = i
        · rw [if_pos e, e]
        · rw [if_neg e]; exact hx j h1 (by omega))
      refine ev_rs K fun m hm => ?_
      simp (disch := omega) only [laws_toIntS.l0, if_pos, w64]
      exact ih m hm
    · refine ev_rs 0 fun m _ => ?_
      simp (disch := omega) only [laws_toIntS.l0, if_neg]
      rw [rd_ext hl fun j h1 h2 => hx j h1 (by omega)]
theorem toIntS_any (a : List Int) (hn : a.length ≤ 35184372088832) : (∃ K, ∀ k, K ≤ k → laws_toIntS.f k a = some (a)) := by
  obtain ⟨K, h⟩ := toIntS_l a (by omega) a.length 0 (List.replicate a.length 0) (by omega) (by omega) (by simp) (fun j h1 h2 => by omega)
  refine ⟨K, fun k hk => ?_⟩
  unfold laws_toIntS.f
  rw [if_pos (by omega), if_pos (by simpa using hn)]
  simpa using h k hk

/-! ### laws.markIntS, laws.heldIntS -/
/-- The numbers from a on stand in a list from a place on. -/
def Runs (l : List Int) (a i : Int) : Prop := ∀ j : Int, i ≤ j → j < l.length → rd l j = a + (j - i)
theorem markIntS_l (d : Nat) : ∀ (x : List Int) (a i : Int), 0 ≤ i → 0 ≤ a → a + (x.length - i) < 1152921504606846976 → i ≤ x.length → (x.length : Int) < 1152921504606846976 → (x.length : Int) - i ≤ d →
    ∃ y, (∃ K, ∀ k, K ≤ k → laws_markIntS.l0 k x a i = some ((a + (x.length - i), y))) ∧ y.length = x.length ∧ Runs y a i ∧ ∀ j : Int, 0 ≤ j → j < i → rd y j = rd x j := by
  induction d with
  | zero =>
    intro x a i h0 ha hb hi hn hd
    refine ⟨x, ev_rs 0 fun m _ => ?_, rfl, fun j h1 h2 => by omega, fun j _ _ => rfl⟩
    simp (disch := omega) only [laws_markIntS.l0, if_neg]
    rw [show a + ((x.length : Int) - i) = a by omega]
  | succ d ih =>
    intro x a i h0 ha hb hi hn hd
    by_cases hlt : i < (x.length : Int)
    · obtain ⟨y, ⟨K, ih⟩, hl, hr, hk⟩ := ih (x.set i.toNat a) (a + 1) (i + 1) (by omega) (by omega) (by simp; omega) (by simp; omega) (by simpa using hn) (by simp; omega)
      refine ⟨y, ev_rs K fun m hm => ?_, by simpa using hl, fun j h1 h2 => ?_, fun j h1 h2 => ?_⟩
      · simp (disch := omega) only [laws_markIntS.l0, if_pos, w64]
        rw [ih m hm]
        rw [List.length_set, show a + 1 + ((x.length : Int) - (i + 1)) = a + (x.length - i) by omega]
      · by_cases e : j = i
        · rw [hk j (by omega) (by omega), rd_set x i j _ h0 hlt (by omega), if_pos e]; omega
        · rw [hr j (by omega) h2]; omega
      · rw [hk j h1 (by omega), rd_set x i j _ h0 hlt h1, if_neg (by omega)]
    · refine ⟨x, ev_rs 0 fun m _ => ?_, rfl, fun j h1 h2 => by omega, fun j _ _ => rfl⟩
      simp (disch := omega) only [laws_markIntS.l0, if_neg]
      rw [show a + ((x.length : Int) - i) = a by omega]
theorem heldIntS_l (d : Nat) : ∀ (x : List Int) (a i : Int), 0 ≤ i → 0 ≤ a → a + (x.length - i) < 1152921504606846976 → i ≤ x.length → (x.length : Int) < 1152921504606846976 → (x.length : Int) - i ≤ d → Runs x a i →
    (∃ K, ∀ k, K ≤ k → laws_heldIntS.l0 k x a i = some (a + (x.length - i))) := by
  induction d with
  | zero =>
    intro x a i h0 ha hb hi hn hd hr
    refine ev_rs 0 fun m _ => ?_
    simp (disch := omega) only [laws_heldIntS.l0, if_neg]
    rw [show a + ((x.length : Int) - i) = a by omega]
  | succ d ih =>
    intro x a i h0 ha hb hi hn hd hr
    by_cases hlt : i < (x.length : Int)
    · obtain ⟨K, ih⟩ := ih x (a + 1) (i + 1) (by omega) (by omega) (by omega) (by omega) hn (by omega) (fun j h1 h2 => by rw [hr j (by omega) h2]; omega)
      refine ev_rs K fun m hm => ?_
      have he : rd x i = a := by rw [hr i (Int.le_refl _) hlt]; omega
      simp (disch := omega) only [laws_heldIntS.l0, if_pos, w64]
      rw [ih m hm]
      rw [show a + 1 + ((x.length : Int) - (i + 1)) = a + (x.length - i) by omega]
    · refine ev_rs 0 fun m _ => ?_
      simp (disch := omega) only [laws_heldIntS.l0, if_neg]
      rw [show a + ((x.length : Int) - i) = a by omega]
/-- What is marked is held. -/
theorem marks_any (x : List Int) (a : Int) (ha : 0 ≤ a) (hb : a + x.length < 1152921504606846976) :
    ∃ y, (∃ K, ∀ k, K ≤ k → laws_markIntS.f k x a = some ((a + x.length, y))) ∧ y.length = x.length ∧ (∃ K, ∀ k, K ≤ k → laws_heldIntS.f k y a = some (a + x.length)) := by
  obtain ⟨y, h, hl, hr, _⟩ := markIntS_l x.length x a 0 (by omega) ha (by omega) (by omega) (by omega) (by omega)
  refine ⟨y, ?_, hl, ?_⟩
  · simpa [laws_markIntS.f] using h
  · have := heldIntS_l y.length y a 0 (by omega) ha (by omega) (by omega) (by omega) (by omega) hr
    simpa [laws_heldIntS.f, hl] using this

theorem in_any (a lo hi : Int) : impl_in.f a lo hi = some (decide (lo ≤ a ∧ a ≤ hi)) := by
  unfold impl_in.f
  by_cases h : lo ≤ a <;> simp [h]
theorem l1In_any (a lo hi : Int) : spec_l1In.f a lo hi = some (decide (lo ≤ a ∧ a ≤ hi)) := by
  unfold spec_l1In.f
  by_cases h : lo ≤ a
  · rw [if_pos h]; simp [h]
  · rw [if_neg h]; simp [h]

/-! ### impl.isSystem, spec.ahGood: both tell whether a list is a system -/
def AllIn (n : Int) (q : Int → Int) (i : Int) : Prop := ∀ j : Int, i ≤ j → j < n → 0 ≤ q j ∧ q j < n ∧ q j ≠ j ∧ q (q j) = j
def NoCross (n : Int) (q : Int → Int) (i : Int) : Prop := ∀ a b, i ≤ a → a < n → a < b → b < q a → a ≤ q b ∧ q b ≤ q a
theorem sys_of {n : Int} {q : Int → Int} : Pl.Sys n q ↔ AllIn n q 0 ∧ NoCross n q 0 :=
  ⟨fun s => ⟨fun j h0 h1 => ⟨s.lo j h0 h1, s.hi j h0 h1, s.ne j h0 h1, s.inv j h0 h1⟩, s.cr⟩,
   fun ⟨h, c⟩ => ⟨fun j h0 h1 => (h j h0 h1).1, fun j h0 h1 => (h j h0 h1).2.1, fun j h0 h1 => (h j h0 h1).2.2.1, fun j h0 h1 => (h j h0 h1).2.2.2, c⟩⟩

theorem isSystem_l2 (l : List Int) (hn : l.length < 4611686018427387904) (a : Int) (ha : 0 ≤ a) (hal : a < l.length) (hA : AllIn l.length (rd l) 0)
    (h1 : (∃ K, ∀ k, K ≤ k → impl_isSystem.l1 k l l l.length (a + 1) = some (tf (NoCross l.length (rd l) (a + 1))))) (d : Nat) :
    ∀ b : Int, a < b → rd l a - b ≤ d → (∃ K, ∀ k, K ≤ k → impl_isSystem.l2 k l a (rd l a) b l l.length a = some (tf ((∀ b' : Int, b ≤ b' → b' < rd l a → a ≤ rd l b' ∧ rd l b' ≤ rd l a) ∧ NoCross l.length (rd l) (a + 1)))) := by
  have hq := hA a ha hal
  obtain ⟨K1, h1⟩ := h1
  have out : ∀ b : Int, a < b → ¬ b < rd l a → (∃ K, ∀ k, K ≤ k → impl_isSystem.l2 k l a (rd l a) b l l.length a = some (tf ((∀ b' : Int, b ≤ b' → b' < rd l a → a ≤ rd l b' ∧ rd l b' ≤ rd l a) ∧ NoCross l.length (rd l) (a + 1)))) := by
    intro b hb hlt
    refine ev_rs K1 fun m hm => ?_
    simp (disch := omega) only [impl_isSystem.l2, if_neg, w64]
    rw [h1 m hm]
    congr 1
    exact tf_c ⟨fun h => ⟨fun b' _ _ => by omega, h⟩, fun h => h.2⟩
  induction d with
  | zero =>
    intro b hb hd
    exact out b hb (by omega)
  | succ d ih =>
    intro b hb hd
    by_cases hlt : b < rd l a
    · obtain ⟨K, ih⟩ := ih (b + 1) (by omega) (by omega)
      by_cases he : a ≤ rd l b ∧ rd l b ≤ rd l a
      · refine ev_rs K fun m hm => ?_
        simp (disch := omega) only [impl_isSystem.l2, if_pos, w64, in_any, Option.bind_some]
        rw [decide_eq_true he]
        simp only [if_true]
        rw [ih m hm]
        congr 1
        refine tf_c ⟨fun h => ⟨fun b' h2 h3 => ?_, h.2⟩, fun h => ⟨fun b' h2 h3 => h.1 b' (by omega) h3, h.2⟩⟩
        by_cases e : b' = b
        · rw [e]; exact he
        · exact h.1 b' (by omega) h3
      · refine ev_rs 0 fun m hm => ?_
        simp (disch := omega) only [impl_isSystem.l2, if_pos, in_any, Option.bind_some]
        rw [decide_eq_false he, tf_f]
        · simp
        · exact fun h => he (h.1 b (Int.le_refl _) hlt)
    · exact out b hb hlt
theorem isSystem_l1 (l : List Int) (hn : l.length < 4611686018427387904) (hA : AllIn l.length (rd l) 0) (d : Nat) : ∀ a : Int, 0 ≤ a → (l.length : Int) - a ≤ d →
    (∃ K, ∀ k, K ≤ k → impl_isSystem.l1 k l l l.length a = some (tf (NoCross l.length (rd l) a))) := by
  have out : ∀ a : Int, ¬ a < l.length → (∃ K, ∀ k, K ≤ k → impl_isSystem.l1 k l l l.length a = some (tf (NoCross l.length (rd l) a))) := by
    intro a hlt
    refine ev_rs 0 fun m hm => ?_
    simp (disch := omega) only [impl_isSystem.l1, if_neg]
    rw [tf_t]
    intro a' b h1 h2; omega
  induction d with
  | zero => intro a h0 hd; exact out a (by omega)
  | succ d ih =>
    intro a h0 hd
    by_cases hlt : a < (l.length : Int)
    · have h1 := ih (a + 1) (by omega) (by omega)
      have hq := hA a h0 hlt
      obtain ⟨K, h2⟩ := isSystem_l2 l hn a h0 hlt hA h1 (rd l a - (a + 1)).toNat (a + 1) (by omega) (by omega)
      refine ev_rs K fun m hm => ?_
      simp (disch := omega) only [impl_isSystem.l1, if_pos, w64]
      rw [h2 m hm]
      congr 1
      refine tf_c ⟨fun h a' b h3 h4 h5 h6 => ?_, fun h => ⟨fun b' h3 h4 => h a b' (Int.le_refl _) hlt (by omega) h4, fun a' b h3 h4 h5 h6 => h a' b (by omega) h4 h5 h6⟩⟩
      by_cases e : a' = a
      · subst e; exact h.1 b (by omega) h6
      · exact h.2 a' b (by omega) h4 h5 h6
    · exact out a hlt
theorem isSystem_l0 (l : List Int) (hn : l.length < 4611686018427387904) (d : Nat) : ∀ i : Int, 0 ≤ i → (l.length : Int) - i ≤ d → (∀ j : Int, 0 ≤ j → j < i → 0 ≤ rd l j ∧ rd l j < l.length ∧ rd l j ≠ j ∧ rd l (rd l j) = j) →
    (∃ K, ∀ k, K ≤ k → impl_isSystem.l0 k l l l.length i = some (tf (AllIn l.length (rd l) i ∧ NoCross l.length (rd l) 0))) := by
  have out : ∀ i : Int, 0 ≤ i → ¬ i < l.length → (∀ j : Int, 0 ≤ j → j < i → 0 ≤ rd l j ∧ rd l j < l.length ∧ rd l j ≠ j ∧ rd l (rd l j) = j) → (∃ K, ∀ k, K ≤ k → impl_isSystem.l0 k l l l.length i = some (tf (AllIn l.length (rd l) i ∧ NoCross l.length (rd l) 0))) := by
    intro i h0 hlt hp
    obtain ⟨K, h1⟩ := isSystem_l1 l hn (fun j h1 h2 => hp j h1 (by omega)) l.length 0 (by omega) (by omega)
    refine ev_rs K fun m hm => ?_
    simp (disch := omega) only [impl_isSystem.l0, if_neg]
    rw [h1 m hm]
    congr 1
    exact tf_c ⟨fun h => ⟨fun j _ _ => by omega, h⟩, fun h => h.2⟩
  induction d with
  | zero => intro i h0 hd hp; exact out i h0 (by omega) hp
  | succ d ih =>
    intro i h0 hd hp
    by_cases hlt : i < (l.length : Int)
    · by_cases hr : 0 ≤ rd l i ∧ rd l i ≤ (l.length : Int) - 1
      · by_cases hs : rd l i = i
        · refine ev_rs 0 fun m hm => ?_
          simp (disch := omega) only [impl_isSystem.l0, if_pos, w64, in_any, Option.bind_some]
          rw [decide_eq_true hr, tf_f]
          · simp [hs]
          · exact fun h => (h.1 i (Int.le_refl _) hlt).2.2.1 hs
        · by_cases hi : rd l (rd l i) = i
          · obtain ⟨K, ih⟩ := ih (i + 1) (by omega) (by omega) (fun j h1 h2 => by
              by_cases e : j = i
              · subst e; exact ⟨by omega, by omega, hs, hi⟩
              · exact hp j h1 (by omega))
            refine ev_rs K fun m hm => ?_
            simp (disch := omega) only [impl_isSystem.l0, if_pos, if_neg, w64, in_any, Option.bind_some]
            rw [decide_eq_true hr, if_pos rfl, ih m hm]
            congr 1
            refine tf_c ⟨fun h => ⟨fun j h1 h2 => ?_, h.2⟩, fun h => ⟨fun j h1 h2 => h.1 j (by omega) h2, h.2⟩⟩
            by_cases e : j = i
            · subst e; exact ⟨by omega, by omega, hs, hi⟩
            · exact h.1 j (by omega) h2
          · refine ev_rs 0 fun m hm => ?_
            simp (disch := omega) only [impl_isSystem.l0, if_pos, if_neg, w64, in_any, Option.bind_some]
            rw [decide_eq_true hr, tf_f]
            · simp
            · exact fun h => hi (h.1 i (Int.le_refl _) hlt).2.2.2
      · refine ev_rs 0 fun m hm => ?_
        simp (disch := omega) only [impl_isSystem.l0, if_pos, w64, in_any, Option.bind_some]
        rw [decide_eq_false hr, tf_f]
        · simp
        · exact fun h => hr (by have := h.1 i (Int.le_refl _) hlt; omega)
    · exact out i h0 hlt hp
/-- Is a list a system of at most six arches? -/
noncomputable def sysB (l : List Int) : Bool := tf (l.length ≤ 12 ∧ Pl.Sys l.length (rd l))
theorem isSystem_any (l : List Int) (hn : l.length < 4611686018427387904) : (∃ K, ∀ k, K ≤ k → impl_isSystem.f k l = some (tf (Pl.Sys l.length (rd l)))) := by
  obtain ⟨K, h⟩ := isSystem_l0 l hn l.length 0 (by omega) (by omega) (fun j _ _ => by omega)
  refine ⟨K, fun k hk => ?_⟩
  unfold impl_isSystem.f
  rw [h k hk]
  exact congrArg _ (tf_c sys_of.symm)
theorem IsSystem_any (l : List Int) (hn : l.length < 4611686018427387904) : (∃ K, ∀ k, K ≤ k → impl_IsSystem.f k l = some (sysB l)) := by
  obtain ⟨K, h⟩ := isSystem_any l hn
  refine ⟨K, fun k hk => ?_⟩
  unfold impl_IsSystem.f sysB
  by_cases h12 : (l.length : Int) ≤ 12
  · rw [if_pos h12, h k hk]
    exact congrArg _ (tf_c ⟨fun h => ⟨by omega, h⟩, fun h => h.2⟩)
  · rw [if_neg h12, tf_f]
    exact fun h => h12 (by omega)
theorem l1All_l (l : List Int) (hn : l.length < 4611686018427387904) (lo hi : Int) (d : Nat) : ∀ i : Int, 0 ≤ i → (l.length : Int) - i ≤ d →
    (∃ K, ∀ k, K ≤ k → spec_l1All.l0 k lo hi l l.length i = some (tf (∀ j : Int, i ≤ j → j < l.length → lo ≤ rd l j ∧ rd l j ≤ hi))) := by
  have out : ∀ i : Int, ¬ i < l.length → (∃ K, ∀ k, K ≤ k → spec_l1All.l0 k lo hi l l.length i = some (tf (∀ j : Int, i ≤ j → j < l.length → lo ≤ rd l j ∧ rd l j ≤ hi))) := by
    intro i hlt
    refine ev_rs 0 fun m hm => ?_
    simp (disch := omega) only [spec_l1All.l0, if_neg]
    rw [tf_t]
    intro j h1 h2; omega
  induction d with
  | zero => intro i h0 hd; exact out i (by omega)
  | succ d ih =>
    intro i h0 hd
    by_cases hlt : i < (l.length : Int)
    · obtain ⟨K, ih⟩ := ih (i + 1) (by omega) (by omega)
      by_cases he : lo ≤ rd l i ∧ rd l i ≤ hi
      · refine ev_rs K fun m hm => ?_
        simp (disch := omega) only [spec_l1All.l0, if_pos, w64, l1In_any, Option.bind_some]
        rw [decide_eq_true he, if_pos rfl, ih m hm]
        congr 1
        refine tf_c ⟨fun h j h1 h2 => ?_, fun h j h1 h2 => h j (by omega) h2⟩
        by_cases e : j = i
        · rw [e]; exact he
        · exact h j (by omega) h2
      · refine ev_rs 0 fun m hm => ?_
        simp (disch := omega) only [spec_l1All.l0, if_pos, l1In_any, Option.bind_some]
        rw [decide_eq_false he, tf_f]
        · simp
        · exact fun h => he (h i (Int.le_refl _) hlt)
    · exact out i hlt
theorem l1All_any (l : List Int) (hn : l.length < 4611686018427387904) (lo hi : Int) : (∃ K, ∀ k, K ≤ k → spec_l1All.f k l lo hi = some (tf (∀ j : Int, 0 ≤ j → j < l.length → lo ≤ rd l j ∧ rd l j ≤ hi))) :=
  l1All_l l hn lo hi l.length 0 (by omega) (by omega)
theorem ahGood_l (l : List Int) (hn : l.length ≤ 12) (hR : ∀ j : Int, 0 ≤ j → j < l.length → 0 ≤ rd l j ∧ rd l j ≤ (l.length : Int) - 1) (d : Nat) : ∀ (i : Int) (op : List Int), 0 ≤ i → i ≤ l.length → (l.length : Int) - i ≤ d → (op.length : Int) ≤ i →
    Pl.Ideal (rd l) i op ∨ (Pl.Doomed l.length (rd l) i op ∧ ¬ Pl.Sys l.length (rd l)) →
    (∃ K, ∀ k, K ≤ k → spec_ahGood.l0 k l op l l.length i = some (tf (Pl.Sys l.length (rd l)))) := by
  have out : ∀ (i : Int) (op : List Int), i ≤ l.length → ¬ i < l.length → Pl.Ideal (rd l) i op ∨ (Pl.Doomed l.length (rd l) i op ∧ ¬ Pl.Sys l.length (rd l)) →
    (∃ K, ∀ k, K ≤ k → spec_ahGood.l0 k l op l l.length i = some (tf (Pl.Sys l.length (rd l)))) := by
    intro i op hi hlt h
    rcases h with h | h
    · have e : i = l.length := by omega
      subst e
      refine ev_rs 0 fun m hm => ?_
      simp (disch := omega) only [spec_ahGood.l0, if_neg]
      rw [tf_t (h.finish (fun j h0 h1 => (hR j h0 h1).1) (fun j h0 h1 => by have := hR j h0 h1; omega))]
    · have := h.1.lt; omega
  induction d with
  | zero => intro i op h0 hi hd hop h; exact out i op hi (by omega) h
  | succ d ih =>
    intro i op h0 hi hd hop h
    by_cases hlt : i < (l.length : Int)
    · have hr := hR i h0 hlt
      by_cases hgt : rd l i > i
      · by_cases he : rd l (rd l i) = i
        · -- an arch begins
          obtain ⟨K, ih⟩ := ih (i + 1) (i :: op) (by omega) (by omega) (by omega) (by simp; omega) (by
            rcases h with h | h
            · exact .inl (h.push h0 hgt he)
            · exact .inr ⟨h.1.push hgt, h.2⟩)
          refine ev_rs (K + 1) fun m hm => ?_
          obtain ⟨m, rfl⟩ : ∃ m', m = m' + 1 := ⟨m - 1, by omega⟩
          have hb : (rd l (rd l i) == i) = true := by simp [he]
          simp (disch := omega) only [spec_ahGood.l0, if_pos, w64]
          rw [hb]
          simp only [spec_ahGood.j2, if_true, Option.bind_some]
          rw [if_pos (by simp; omega), w64 (by omega) (by omega)]
          exact ih m (by omega)
        · have hb : (rd l (rd l i) == i) = false := by simp [he]
          refine ev_rs 1 fun m hm => ?_
          obtain ⟨m, rfl⟩ : ∃ m', m = m' + 1 := ⟨m - 1, by omega⟩
          simp (disch := omega) only [spec_ahGood.l0, if_pos, w64]
          rw [hb, tf_f (Pl.Ideal.fail_push he h0 hlt)]
          simp (disch := omega) only [spec_ahGood.j2, Bool.false_eq_true, if_false, if_neg]
      · by_cases hs : rd l i = i
        · refine ev_rs 1 fun m hm => ?_
          obtain ⟨m, rfl⟩ : ∃ m', m = m' + 1 := ⟨m - 1, by omega⟩
          simp (disch := omega) only [spec_ahGood.l0, if_pos, if_neg, w64]
          rw [tf_f (Pl.Ideal.fail_self hs h0 hlt)]
          simp (disch := omega) only [spec_ahGood.j2, Bool.false_eq_true, if_false, if_neg]
        · have hls : rd l i < i := by omega
          have stop : op.head? ≠ some (rd l i) → ¬ Pl.Sys l.length (rd l) := fun hh => by
            rcases h with h | h
            · exact h.fail_pop h0 hlt hls hh
            · exact h.2
          cases op with
          | nil =>
            refine ev_rs 1 fun m hm => ?_
            obtain ⟨m, rfl⟩ : ∃ m', m = m' + 1 := ⟨m - 1, by omega⟩
            simp (disch := omega) only [spec_ahGood.l0, if_pos, if_neg, w64]
            rw [tf_f (stop (by simp))]
            simp (disch := omega) only [spec_ahGood.j2, Bool.false_eq_true, if_false, if_pos]
            simp
          | cons b t =>
            have hd0 : rd (b :: t) 0 = b := rfl
            by_cases hbt : b = rd l i
            · obtain ⟨K, ih⟩ := ih (i + 1) t (by omega) (by omega) (by omega) (by simp at hop; omega) (by
                rcases h with h | h
                · by_cases he : rd l b = i
                  · exact .inl (h.pop h0 hbt.symm (by omega) he (fun b h1 h2 => (hR b h1 (by omega)).1))
                  · refine .inr ⟨h.doom h0 hbt.symm (by omega) he ?_, ?_⟩
                    · have := (hR b (by omega) (by omega)).2; omega
                    · intro s
                      have := s.inv i h0 hlt
                      rw [← hbt] at this; exact he this
                · exact .inr ⟨h.1.pop hbt.symm, h.2⟩)
              refine ev_rs (K + 1) fun m hm => ?_
              obtain ⟨m, rfl⟩ : ∃ m', m = m' + 1 := ⟨m - 1, by omega⟩
              simp (disch := omega) only [spec_ahGood.l0, if_pos, if_neg, w64]
              simp only [spec_ahGood.j2, Bool.false_eq_true, if_false]
              rw [if_pos hls, if_pos (by simp), if_pos (by simp), hd0, if_pos hbt, if_pos (by simp; omega), w64 (by omega) (by omega)]
              exact ih m (by omega)
            · refine ev_rs 1 fun m hm => ?_
              obtain ⟨m, rfl⟩ : ∃ m', m = m' + 1 := ⟨m - 1, by omega⟩
              simp (disch := omega) only [spec_ahGood.l0, if_pos, if_neg, w64]
              simp only [spec_ahGood.j2, Bool.false_eq_true, if_false]
              rw [if_pos hls, if_pos (by simp), if_pos (by simp), hd0, if_neg hbt, tf_f (stop (by simpa using hbt))]
    · exact out i op hi hlt h
theorem ahGood_any (l : List Int) (hn : l.length < 4611686018427387904) : (∃ K, ∀ k, K ≤ k → spec_ahGood.f k l = some (sysB l)) := by
  unfold sysB
  by_cases h2 : (l.length : Int) % 2 = 1
  · refine ev_rs 0 fun m hm => ?_
    unfold spec_ahGood.f
    rw [if_pos h2, tf_f]
    · simp [spec_ahGood.j0]
    · intro h
      have := h.2.even (by omega)
      omega
  · by_cases h12 : (l.length : Int) > 12
    · refine ev_rs 0 fun m hm => ?_
      unfold spec_ahGood.f
      rw [if_neg h2, if_pos h12, tf_f]
      · simp [spec_ahGood.j0]
      · intro h; omega
    · obtain ⟨K, h⟩ := l1All_any l hn 0 ((l.length : Int) - 1)
      by_cases hR : ∀ j : Int, 0 ≤ j → j < (l.length : Int) → 0 ≤ rd l j ∧ rd l j ≤ (l.length : Int) - 1
      · obtain ⟨K2, h3⟩ := ahGood_l l (by omega) hR l.length 0 [] (by omega) (by omega) (by omega) (by simp) (.inl (.start _))
        refine ev_rs (K + K2) fun m hm => ?_
        unfold spec_ahGood.f
        rw [if_neg h2, if_neg h12, w64 (by omega) (by omega), h (m + 1) (by omega), tf_t hR]
        simp only [Option.bind_some, Bool.not_true, spec_ahGood.j0, Bool.false_eq_true, if_false]
        rw [h3 m (by omega)]
        exact congrArg _ (tf_c ⟨fun h => ⟨by omega, h⟩, fun h => h.2⟩)
      · refine ev_rs K fun m hm => ?_
        unfold spec_ahGood.f
        rw [if_neg h2, if_neg h12, w64 (by omega) (by omega), h (m + 1) (by omega), tf_f hR, tf_f]
        · simp [spec_ahGood.j0]
        · intro s
          exact hR fun j h0 h1 => ⟨s.2.lo j h0 h1, by have := s.2.hi j h0 h1; omega⟩

theorem sysB_mem {l : List Int} (h : sysB l = true) : l.length / 2 < 7 ∧ l ∈ Pl.sysList (l.length / 2) := by
  have := tf_iff.1 h
  exact ⟨by omega, Pl.Sys.mem this.2 this.1⟩
/-- What holds of every listed system holds of each list that is one. -/
theorem of_table {P : List Int → Bool} (h : ((List.range 7).all fun n => (Pl.sysList n).all P) = true) {l : List Int} (hl : sysB l = true) : P l = true := by
  obtain ⟨h7, hm⟩ := sysB_mem hl
  exact List.all_eq_true.1 (List.all_eq_true.1 h _ (List.mem_range.2 h7)) _ hm

/-! ### what lists systems: the written list -/
theorem ev_at {α : Type} {g : Nat → Option α} {r : α} (hm : ∀ k, LeO (g k) (g (k + 1))) {K : Nat} (h : g K = some r) : (∃ K, ∀ k, K ≤ k → g k = some (r)) := ⟨K, fun k hk => at_rounds hm hk h⟩
theorem ev_all {α β : Type} {g : Nat → α → Option β} {r : α → β} : ∀ (L : List α), (∀ q ∈ L, (∃ K, ∀ k, K ≤ k → g k q = some (r q))) → ∃ K, ∀ q ∈ L, ∀ k, K ≤ k → g k q = some (r q)
  | [], _ => ⟨0, fun q hq => by cases hq⟩
  | x :: L, h => by
    obtain ⟨K1, h1⟩ := h x List.mem_cons_self
    obtain ⟨K2, h2⟩ := ev_all L (fun q hq => h q (List.mem_cons_of_mem _ hq))
    refine ⟨K1 + K2, fun q hq k hk => ?_⟩
    rcases List.mem_cons.1 hq with rfl | hq
    · exact h1 k (by omega)
    · exact h2 q hq k (by omega)
theorem ev_eq {α : Type} {g : Nat → Option α} {r s : α} (h1 : (∃ K, ∀ k, K ≤ k → g k = some (r))) (h2 : (∃ K, ∀ k, K ≤ k → g k = some (s))) : r = s := by
  obtain ⟨K1, h1⟩ := h1
  obtain ⟨K2, h2⟩ := h2
  have := h1 (K1 + K2) (by omega)
  rw [h2 (K1 + K2) (by omega)] at this
  exact (Option.some.inj this).symm
theorem sys_tab : ((List.range 7).all fun n => (Pl.sysList n).all fun p => impl_IsSystem.f 100 p == some true && decide (p.length = 2 * n)) = true := by decide +kernel
theorem sysB_of_mem {n : Nat} (hn : n < 7) {q : List Int} (hq : q ∈ Pl.sysList n) : sysB q = true ∧ q.length = 2 * n := by
  have h := List.all_eq_true.1 (List.all_eq_true.1 sys_tab n (List.mem_range.2 hn)) q hq
  rw [Bool.and_eq_true] at h
  have hl : q.length = 2 * n := of_decide_eq_true h.2
  exact ⟨(ev_eq (ev_at (fun k => impl_IsSystem.mono q k) (beq_iff_eq.1 h.1)) (IsSystem_any q (by omega))).symm, hl⟩
theorem sysB_len {l : List Int} (h : sysB l = true) : l.length = 2 * (l.length / 2) ∧ l.length / 2 < 7 := by
  obtain ⟨h7, hm⟩ := sysB_mem h
  exact ⟨(sysB_of_mem h7 hm).2, h7⟩
theorem L1_get (T : List (List Int)) (i : Nat) (h : i < T.length) : rd_L1 T (i : Int) = T[i] := by
  unfold rd_L1
  rw [Int.toNat_natCast, List.getD_eq_getElem?_getD, List.getElem?_eq_getElem h]; rfl

theorem systems_tab : ((List.range 7).all fun n => impl_systems.f 300 (n : Int) == some (Pl.sysList n)) = true := by decide +kernel
theorem systems_any (n : Int) (h0 : 0 ≤ n) (h6 : n ≤ 6) : (∃ K, ∀ k, K ≤ k → impl_systems.f k n = some (Pl.sysList n.toNat)) := by
  have h := List.all_eq_true.1 systems_tab n.toNat (List.mem_range.2 (by omega))
  rw [show ((n.toNat : Nat) : Int) = n by omega] at h
  exact ev_at (fun k => impl_systems.mono n k) (beq_iff_eq.1 h)

theorem ahAll_tab : ((List.range 7).all fun n => spec_ahAll.f 300 (n : Int) 0 == some (Pl.sysList n)) = true := by decide +kernel
theorem ahAll_any (n : Int) (h0 : 0 ≤ n) (h6 : n ≤ 6) : (∃ K, ∀ k, K ≤ k → spec_ahAll.f k n 0 = some (Pl.sysList n.toNat)) := by
  have h := List.all_eq_true.1 ahAll_tab n.toNat (List.mem_range.2 (by omega))
  rw [show ((n.toNat : Nat) : Int) = n by omega] at h
  exact ev_at (fun k => spec_ahAll.mono n 0 k) (beq_iff_eq.1 h)

/-! ### a system by its rank -/
def withR (n r : Int) : List Int × Bool := if 0 ≤ n ∧ n ≤ 6 then (if 0 ≤ r ∧ r < ((Pl.sysList n.toNat).length : Int) then (rd_L1 (Pl.sysList n.toNat) r, true) else ([], false)) else ([], false)
theorem ahCount_tab : ((List.range 7).all fun n => spec_ahCount.f 20 (n : Int) == some ((Pl.sysList n).length : Int)) = true := by decide +kernel
theorem ahCount_any (n : Int) (h0 : 0 ≤ n) (h6 : n ≤ 6) : (∃ K, ∀ k, K ≤ k → spec_ahCount.f k n = some (((Pl.sysList n.toNat).length : Int))) := by
  have h := List.all_eq_true.1 ahCount_tab n.toNat (List.mem_range.2 (by omega))
  rw [show ((n.toNat : Nat) : Int) = n by omega] at h
  exact ev_at (fun k => spec_ahCount.mono n k) (beq_iff_eq.1 h)
theorem sysList_len : ((List.range 7).all fun n => decide ((Pl.sysList n).length ≤ 132 ∧ 0 < (Pl.sysList n).length)) = true := by decide +kernel
theorem sysList_short {n : Nat} (h : n < 7) : (Pl.sysList n).length ≤ 132 ∧ 0 < (Pl.sysList n).length := of_decide_eq_true (List.all_eq_true.1 sysList_len n (List.mem_range.2 h))
theorem implWith_any (n r : Int) : (∃ K, ∀ k, K ≤ k → impl_SystemWith.f k n r = some (withR n r)) := by
  by_cases h : 0 ≤ n ∧ n ≤ 6
  · obtain ⟨K, hK⟩ := systems_any n h.1 h.2
    obtain ⟨h1, h2⟩ := sysList_short (n := n.toNat) (by omega)
    refine ⟨K, fun k hk => ?_⟩
    unfold withR
    simp only [impl_SystemWith.f, impl_isArches.f, in_any, decide_eq_true h, hK k hk, Option.bind_some, if_true, if_pos h]
    rw [w64 (by omega) (by omega)]
    by_cases hr : 0 ≤ r ∧ r < ((Pl.sysList n.toNat).length : Int)
    · rw [decide_eq_true (by omega : 0 ≤ r ∧ r ≤ ((Pl.sysList n.toNat).length : Int) - 1), if_pos rfl, if_pos hr.1, if_pos hr.2, if_pos hr]
    · rw [decide_eq_false (by omega : ¬ (0 ≤ r ∧ r ≤ ((Pl.sysList n.toNat).length : Int) - 1)), if_neg (by simp), if_neg hr]
  · refine ⟨0, fun k hk => ?_⟩
    unfold withR
    simp only [impl_SystemWith.f, impl_isArches.f, in_any, decide_eq_false h, Option.bind_some, Bool.false_eq_true, if_false, if_neg h]
theorem specWith_any (n r : Int) : (∃ K, ∀ k, K ≤ k → spec_SystemWith.f k n r = some (withR n r)) := by
  by_cases h : 0 ≤ n ∧ n ≤ 6
  · obtain ⟨K, hK⟩ := ahAll_any n h.1 h.2
    obtain ⟨K2, hK2⟩ := ahCount_any n h.1 h.2
    obtain ⟨h1, h2⟩ := sysList_short (n := n.toNat) (by omega)
    refine ⟨K + K2, fun k hk => ?_⟩
    unfold withR
    simp only [spec_SystemWith.f, spec_ahArches.f, l1In_any, decide_eq_true h, hK k (by omega), hK2 k (by omega), Option.bind_some, if_true, if_pos h]
    rw [w64 (by omega) (by omega)]
    by_cases hr : 0 ≤ r ∧ r < ((Pl.sysList n.toNat).length : Int)
    · rw [decide_eq_true (by omega : 0 ≤ r ∧ r ≤ ((Pl.sysList n.toNat).length : Int) - 1), if_pos rfl, if_pos hr.1, if_pos hr.2, if_pos hr]
    · rw [decide_eq_false (by omega : ¬ (0 ≤ r ∧ r ≤ ((Pl.sysList n.toNat).length : Int) - 1)), if_neg (by simp), if_neg hr]
  · refine ⟨0, fun k hk => ?_⟩
    unfold withR
    simp only [spec_SystemWith.f, spec_ahArches.f, l1In_any, decide_eq_false h, Option.bind_some, Bool.false_eq_true, if_false, if_neg h]

theorem withR_length (n r : Int) : (withR n r).1.length ≤ 1048576 := by
  unfold withR
  split
  · split
    · rename_i h hr
      have h1 : rd_L1 (Pl.sysList n.toNat) r ∈ Pl.sysList n.toNat := by
        have := List.getElem_mem (l := Pl.sysList n.toNat) (n := r.toNat) (by omega)
        rwa [← L1_get _ r.toNat (by omega), show ((r.toNat : Nat) : Int) = r by omega] at this
      have := (sysB_of_mem (n := n.toNat) (by omega) h1).2
      show (rd_L1 (Pl.sysList n.toNat) r).length ≤ 1048576
      omega
    · simp
  · simp

/-! ### ranks of systems -/
def rkI (n : Nat) (p : List Int) : Int := ((Pl.sysList n).idxOf p : Nat)
theorem rank_tab : ((List.range 7).all fun n => (Pl.sysList n).all fun p => (slices_BinarySearchFunc_int_int_int.f 40 (Pl.sysList n) p).map Prod.fst == some (rkI n p)) = true := by decide +kernel
theorem half_len (l : List Int) (h : l.length ≤ 1048576) : wrap64 ((l.length : Int) / 2) = ((l.length / 2 : Nat) : Int) := by rw [w64 (by omega) (by omega)]; omega
theorem rankOf_any {l : List Int} (h : sysB l = true) : (∃ K, ∀ k, K ≤ k → impl_rankOf.f k l = some (rkI (l.length / 2) l)) := by
  obtain ⟨h7, hm⟩ := sysB_mem h
  obtain ⟨he, _⟩ := sysB_len h
  obtain ⟨K1, h1⟩ := systems_any ((l.length / 2 : Nat) : Int) (by omega) (by omega)
  have h2 := beq_iff_eq.1 (List.all_eq_true.1 (List.all_eq_true.1 rank_tab _ (List.mem_range.2 h7)) l hm)
  obtain ⟨⟨a, b⟩, h3, h4⟩ := Option.map_eq_some_iff.1 h2
  obtain rfl : a = rkI (l.length / 2) l := h4
  refine ⟨K1 + 40, fun k hk => ?_⟩
  unfold impl_rankOf.f
  rw [half_len l (by omega), h1 k (by omega), Option.bind_some, Int.toNat_natCast, at_rounds (slices_BinarySearchFunc_int_int_int.mono _ _) (by omega : 40 ≤ k) h3, Option.bind_some]

theorem srank_tab : ((List.range 7).all fun n => (Pl.sysList n).all fun p => spec_ahRank.l0 200 p 0 (Pl.sysList n) ((Pl.sysList n).length : Int) 0 == some (rkI n p)) = true := by decide +kernel
theorem ahRank_any {l : List Int} (h : sysB l = true) : (∃ K, ∀ k, K ≤ k → spec_ahRank.f k l = some (rkI (l.length / 2) l)) := by
  obtain ⟨h7, hm⟩ := sysB_mem h
  obtain ⟨he, _⟩ := sysB_len h
  obtain ⟨K1, h1⟩ := ahAll_any ((l.length / 2 : Nat) : Int) (by omega) (by omega)
  have h2 := beq_iff_eq.1 (List.all_eq_true.1 (List.all_eq_true.1 srank_tab _ (List.mem_range.2 h7)) l hm)
  refine ⟨K1 + 200, fun k hk => ?_⟩
  unfold spec_ahRank.f
  rw [half_len l (by omega), h1 k (by omega), Option.bind_some, Int.toNat_natCast]
  exact at_rounds (fun k => spec_ahRank.mono_l k _ _ _ _ _) (by omega : 200 ≤ k) h2

noncomputable def nextR (l : List Int) : List Int × Bool := if sysB l = true then withR ((l.length / 2 : Nat) : Int) (rkI (l.length / 2) l + 1) else ([], false)
theorem rkI_le {l : List Int} (h : sysB l = true) : 0 ≤ rkI (l.length / 2) l ∧ rkI (l.length / 2) l ≤ 132 := by
  obtain ⟨h7, hm⟩ := sysB_mem h
  have h1 := sysList_short h7
  have h2 := List.idxOf_lt_length_iff.2 hm
  unfold rkI
  omega
theorem implNext_of {l : List Int} (hn : l.length ≤ 1048576) (h : sysB l = true) (q : Int) (h0 : 0 ≤ q) (h9 : q ≤ 132) (R : List Int × Bool) (hq : (∃ K, ∀ k, K ≤ k → impl_rankOf.f k l = some (q))) (hw : (∃ K, ∀ k, K ≤ k → impl_SystemWith.f k ((l.length / 2 : Nat) : Int) (q + 1) = some (R))) : (∃ K, ∀ k, K ≤ k → impl_NextSystem.f k l = some (R)) := by
  obtain ⟨K1, h1⟩ := IsSystem_any l (by omega)
  obtain ⟨K2, h2⟩ := hq
  obtain ⟨K3, h3⟩ := hw
  refine ⟨K1 + K2 + K3, fun k hk => ?_⟩
  show impl_NextSystem.f k l = some (R.1, R.2)
  unfold impl_NextSystem.f
  rw [h1 k (by omega), h, Option.bind_some, if_pos rfl, h2 k (by omega), Option.bind_some, half_len l hn, w64 (by omega) (by omega), h3 k (by omega), Option.bind_some]
theorem specNext_of {l : List Int} (hn : l.length ≤ 1048576) (h : sysB l = true) (q : Int) (h0 : 0 ≤ q) (h9 : q ≤ 132) (R : List Int × Bool) (hq : (∃ K, ∀ k, K ≤ k → spec_ahRank.f k l = some (q))) (hw : (∃ K, ∀ k, K ≤ k → spec_SystemWith.f k ((l.length / 2 : Nat) : Int) (q + 1) = some (R))) : (∃ K, ∀ k, K ≤ k → spec_NextSystem.f k l = some (R)) := by
  obtain ⟨K1, h1⟩ := ahGood_any l (by omega)
  obtain ⟨K2, h2⟩ := hq
  obtain ⟨K3, h3⟩ := hw
  refine ⟨K1 + K2 + K3, fun k hk => ?_⟩
  show spec_NextSystem.f k l = some (R.1, R.2)
  unfold spec_NextSystem.f
  rw [h1 k (by omega), h, Option.bind_some, if_pos rfl, h2 k (by omega), Option.bind_some, half_len l hn, w64 (by omega) (by omega), h3 k (by omega), Option.bind_some]
theorem nextR_pos {l : List Int} (h : sysB l = true) : nextR l = withR ((l.length / 2 : Nat) : Int) (rkI (l.length / 2) l + 1) := by unfold nextR; rw [if_pos h]
theorem nextR_neg {l : List Int} (h : sysB l = false) : nextR l = ([], false) := by unfold nextR; rw [if_neg (by rw [h]; simp)]
theorem implNext_any (l : List Int) (hn : l.length ≤ 1048576) : (∃ K, ∀ k, K ≤ k → impl_NextSystem.f k l = some (nextR l)) := by
  cases h : sysB l with
  | true => rw [nextR_pos h]; exact implNext_of hn h _ (rkI_le h).1 (rkI_le h).2 _ (rankOf_any h) (implWith_any _ _)
  | false =>
    obtain ⟨K1, h1⟩ := IsSystem_any l (by omega)
    rw [nextR_neg h]
    exact ⟨K1, fun k hk => by simp (disch := omega) only [impl_NextSystem.f, h1, h, Option.bind_some, if_false, Bool.false_eq_true]⟩
theorem specNext_any (l : List Int) (hn : l.length ≤ 1048576) : (∃ K, ∀ k, K ≤ k → spec_NextSystem.f k l = some (nextR l)) := by
  cases h : sysB l with
  | true => rw [nextR_pos h]; exact specNext_of hn h _ (rkI_le h).1 (rkI_le h).2 _ (ahRank_any h) (specWith_any _ _)
  | false =>
    obtain ⟨K1, h1⟩ := ahGood_any l (by omega)
    rw [nextR_neg h]
    exact ⟨K1, fun k hk => by simp (disch := omega) only [spec_NextSystem.f, h1, h, Option.bind_some, if_false, Bool.false_eq_true]⟩
theorem nextR_length (l : List Int) : (nextR l).1.length ≤ 1048576 := by
  cases h : sysB l with
  | true => rw [nextR_pos h]; exact withR_length _ _
  | false => rw [nextR_neg h]; simp

theorem FnExactNextSystem : laws_FnExactNextSystem.Pure := by
  intro l hx_l _ _
  unfold maxLen at hx_l
  by_cases h_l : (l.length : Int) > 1048576
  · exact ⟨0, by simp [laws_FnExactNextSystem.f, h_l]⟩
  · skip
    obtain ⟨KTl, t_l⟩ := toIntS_any l (by omega)
    obtain ⟨KEl, e_l⟩ := eqIntS_any l l (by omega)
    obtain ⟨y_l, ⟨KMl, m_l⟩, _, _⟩ := marks_any l (1) (by omega) (by omega)
    obtain ⟨KI, hI⟩ := implNext_any l (by omega)
    obtain ⟨KS, hS⟩ := specNext_any l (by omega)
    have hp1 : ¬ (1 + l.length : Int) < 0 := by omega
    have hR := nextR_length l
    obtain ⟨KR, hE⟩ := eqIntS_any (nextR l).1 (nextR l).1 (by omega)
    obtain ⟨zz, ⟨KZ, hM⟩, _, ⟨KH, hH⟩⟩ := marks_any (nextR l).1 1 (by omega) (by omega)
    have hp2 : ¬ (1 : Int) + (nextR l).1.length < 0 := by omega
    refine ⟨KTl + KEl + KMl + KI + KS + KR + KZ + KH + 6, ?_⟩
    simp (disch := omega) only [laws_FnExactNextSystem.f, Bool.false_eq_true, if_false, if_neg, t_l, e_l, m_l, hI, hS, hp1, hp2, hE, hM, hH, Option.bind_some, decide_true, if_true, bne_self_eq_false, and_self]
    simp (disch := omega) only [laws_FnExactNextSystem.j0, Bool.false_eq_true, if_false, if_neg, t_l, e_l, m_l, hI, hS, hp1, hp2, hE, hM, hH, Option.bind_some, decide_true, if_true, bne_self_eq_false, and_self]
    simp (disch := omega) only [laws_FnExactNextSystem.j1, Bool.false_eq_true, if_false, if_neg, t_l, e_l, m_l, hI, hS, hp1, hp2, hE, hM, hH, Option.bind_some, decide_true, if_true, bne_self_eq_false, and_self]
    simp (disch := omega) only [laws_FnExactNextSystem.j2, Bool.false_eq_true, if_false, if_neg, t_l, e_l, m_l, hI, hS, hp1, hp2, hE, hM, hH, Option.bind_some, decide_true, if_true, bne_self_eq_false, and_self]

end Go.Proofs.Ytpepnlcelllhkaa.Pure
