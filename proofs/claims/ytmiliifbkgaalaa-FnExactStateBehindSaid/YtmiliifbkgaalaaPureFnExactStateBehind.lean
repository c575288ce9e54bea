/- The law FnExactStateBehind returns true at every pair of lists and every number: the program's StateBehind and the reference's tell the same, and what came in stays as it is. Conditions: none beyond the form's own. -/
import Derived.Test.YtmiliifbkgaalaaQFnExactStateBehindx12
import Derived.Test.YtmiliifbkgaalaaMyPl
namespace Go.Proofs.Ytmiliifbkgaalaa.Pure
open Go.RowKit Go.Proofs.Ytmiliifbkgaalaa.QFnExactStateBehind Go.Proofs.YtmiliifbkgaalaaW.PrintWords Go.Proofs.YtmiliifbkgaalaaW.PrintLast
open laws_FnExactStateBehind
set_option linter.unusedVariables false
set_option linter.unusedSimpArgs false
theorem w64 {x : Int} (h1 : -9223372036854775808 ≤ x) (h2 : x < 9223372036854775808) : wrap64 x = x := by unfold wrap64; omega
theorem ev_rs {α : Type} {g : Nat → Option α} {r : α} (K : Nat) (h : ∀ m, K ≤ m → g (m + 1) = some r) : ∃ K, ∀ k, K ≤ k → g k = some r := by
 refine ⟨K + 1, fun k hk => ?_⟩
 obtain ⟨m, rfl⟩ : ∃ m, k = m + 1 := ⟨k - 1, by omega⟩
 exact h m (by omega)
noncomputable def tf (P : Prop) : Bool := @decide P (Classical.propDecidable P)
theorem tf_t {P : Prop} (h : P) : tf P = true := by unfold tf; simp [h]
theorem tf_f {P : Prop} (h : ¬ P) : tf P = false := by unfold tf; simp [h]
theorem tf_iff {P : Prop} : tf P = true ↔ P := by unfold tf; simp
theorem tf_c {P Q : Prop} (h : P ↔ Q) : tf P = tf Q := by rw [propext h]
theorem tf_d {P : Prop} [Decidable P] : tf P = decide P := by
 by_cases h : P
 ·rw [tf_t h]; simp [h]
 ·rw [tf_f h]; simp [h]
theorem rd_set (l : List Int) (i j v : Int) (hi : 0 ≤ i) (hl : i < l.length) (hj : 0 ≤ j) : rd (l.set i.toNat v) j = if j = i then v else rd l j := by
 unfold rd
 simp only [List.getD_eq_getElem?_getD, List.getElem?_set]
 by_cases e : j = i
 ·subst e
  rw [if_pos rfl, if_pos rfl, if_pos (by omega)]; rfl
 ·rw [if_neg (by omega), if_neg e]
theorem rd_get (l : List Int) (i : Nat) (h : i < l.length) : rd l i = l[i] := by
 unfold rd
 rw [Int.toNat_natCast, List.getD_eq_getElem?_getD, List.getElem?_eq_getElem h]; rfl
theorem rd_ext {a b : List Int} (hl : a.length = b.length) (h : ∀ j : Int, 0 ≤ j → j < a.length → rd a j = rd b j) : a = b := by
 refine List.ext_getElem hl fun i h1 h2 => ?_
 have := h i (by omega) (by omega)
 rwa [rd_get a i h1, rd_get b i h2] at this
theorem rd_mem (l : List Int) (i : Int) (h0 : 0 ≤ i) (h : i < l.length) : rd l i ∈ l := by
 have e := rd_get l i.toNat (by omega)
 rw [show ((i.toNat : Nat) : Int) = i by omega] at e
 rw [e]; exact List.getElem_mem _
theorem eqIntS_l (a b : List Int) (hl : a.length = b.length) (hn : a.length < 4611686018427387904) (d : Nat) : ∀ i : Int, 0 ≤ i → (a.length : Int) - i ≤ d →
  (∃ K, ∀ k, K ≤ k → laws_eqIntS.l0 k a b i = some (tf (∀ j : Int, i ≤ j → j < a.length → rd a j = rd b j))) := by
 induction d with
 | zero =>
  intro i h0 hd
  refine ev_rs 0 fun m _ => ?_
  simp (disch := omega) only [laws_eqIntS.l0, if_neg]
  rw [tf_t]
  intro j h1 h2; omega
 | succ d ih =>
  intro i h0 hd
  by_cases hlt : i < (a.length : Int)
  ·obtain ⟨K, ih⟩ := ih (i + 1) (by omega) (by omega)
   by_cases he : rd a i = rd b i
   ·refine ev_rs K fun m hm => ?_
    simp (disch := omega) only [laws_eqIntS.l0, if_pos, w64]
    rw [ih m hm]
    congr 1
    refine tf_c ⟨fun h j h1 h2 => ?_, fun h j h1 h2 => h j (by omega) h2⟩
    by_cases e : j = i
    ·rw [e]; exact he
    ·exact h j (by omega) h2
   ·refine ev_rs 0 fun m hm => ?_
    simp (disch := omega) only [laws_eqIntS.l0, if_pos]
    first | rw [if_neg he, tf_f] | rw [tf_f]
    exact fun h => he (h i (Int.le_refl _) hlt)
  ·refine ev_rs 0 fun m _ => ?_
   simp (disch := omega) only [laws_eqIntS.l0, if_neg]
   rw [tf_t]
   intro j h1 h2; omega
theorem eqIntS_any (a b : List Int) (hn : a.length < 4611686018427387904) : (∃ K, ∀ k, K ≤ k → laws_eqIntS.f k a b = some (decide (a = b))) := by
 by_cases hl : a.length = b.length
 ·obtain ⟨K, h⟩ := eqIntS_l a b hl hn a.length 0 (by omega) (by omega)
  refine ⟨K, fun k hk => ?_⟩
  unfold laws_eqIntS.f
  rw [if_pos (by omega), h k hk, ← tf_d]
  congr 1
  exact tf_c ⟨fun h => rd_ext hl fun j => h j, fun h j _ _ => by rw [h]⟩
 ·refine ⟨0, fun k hk => ?_⟩
  unfold laws_eqIntS.f
  rw [if_neg (by omega)]
  congr 1
  exact (decide_eq_false fun h => hl (by rw [h])).symm
theorem toIntS_l (a : List Int) (hn : a.length < 4611686018427387904) (d : Nat) : ∀ (i : Int) (x : List Int), 0 ≤ i → (a.length : Int) - i ≤ d → x.length = a.length →
  (∀ j : Int, 0 ≤ j → j < i → rd x j = rd a j) → (∃ K, ∀ k, K ≤ k → laws_toIntS.l0 k a x i = some (a)) := by
 induction d with
 | zero =>
  intro i x h0 hd hl hx
  refine ev_rs 0 fun m _ => ?_
  simp (disch := omega) only [laws_toIntS.l0, if_neg]
  rw [rd_ext hl fun j h1 h2 => hx j h1 (by omega)]
 | succ d ih =>
  intro i x h0 hd hl hx
  by_cases hlt : i < (a.length : Int)
  ·obtain ⟨K, ih⟩ := ih (i + 1) (x.set i.toNat (rd a i)) (by omega) (by omega) (by simp [hl]) (fun j h1 h2 => by
    rw [rd_set x i j _ h0 (by omega) h1]
    by_cases e : j = i
    ·rw [if_pos e, e]
    ·rw [if_neg e]; exact hx j h1 (by omega))
   refine ev_rs K fun m hm => ?_
   simp (disch := omega) only [laws_toIntS.l0, if_pos, w64]
   exact ih m hm
  ·refine ev_rs 0 fun m _ => ?_
   simp (disch := omega) only [laws_toIntS.l0, if_neg]
   rw [rd_ext hl fun j h1 h2 => hx j h1 (by omega)]
theorem toIntS_any (a : List Int) (hn : a.length ≤ 35184372088832) : (∃ K, ∀ k, K ≤ k → laws_toIntS.f k a = some (a)) := by
 obtain ⟨K, h⟩ := toIntS_l a (by omega) a.length 0 (List.replicate a.length 0) (by omega) (by omega) (by simp) (fun j h1 h2 => by omega)
 refine ⟨K, fun k hk => ?_⟩
 unfold laws_toIntS.f
 rw [if_pos (by omega), if_pos (by simpa using hn)]
 simpa using h k hk
def Runs (l : List Int) (a i : Int) : Prop := ∀ j : Int, i ≤ j → j < l.length → rd l j = a + (j - i)
theorem markIntS_l (d : Nat) : ∀ (x : List Int) (a i : Int), 0 ≤ i → 0 ≤ a → a + (x.length - i) < 1152921504606846976 → i ≤ x.length → (x.length : Int) < 1152921504606846976 → (x.length : Int) - i ≤ d →
  ∃ y, (∃ K, ∀ k, K ≤ k → laws_markIntS.l0 k x a i = some ((a + (x.length - i), y))) ∧ y.length = x.length ∧ Runs y a i ∧ ∀ j : Int, 0 ≤ j → j < i → rd y j = rd x j := by
 induction d with
 | zero =>
  intro x a i h0 ha hb hi hn hd
  refine ⟨x, ev_rs 0 fun m _ => ?_, rfl, fun j h1 h2 => by omega, fun j _ _ => rfl⟩
  simp (disch := omega) only [laws_markIntS.l0, if_neg]
  rw [show a + ((x.length : Int) - i) = a by omega]
 | succ d ih =>
  intro x a i h0 ha hb hi hn hd
  by_cases hlt : i < (x.length : Int)
  ·obtain ⟨y, ⟨K, ih⟩, hl, hr, hk⟩ := ih (x.set i.toNat a) (a + 1) (i + 1) (by omega) (by omega) (by simp; omega) (by simp; omega) (by simpa using hn) (by simp; omega)
   refine ⟨y, ev_rs K fun m hm => ?_, by simpa using hl, fun j h1 h2 => ?_, fun j h1 h2 => ?_⟩
   ·simp (disch := omega) only [laws_markIntS.l0, if_pos, w64]
    rw [ih m hm]
    rw [List.length_set, show a + 1 + ((x.length : Int) - (i + 1)) = a + (x.length - i) by omega]
   ·by_cases e : j = i
    ·rw [hk j (by omega) (by omega), rd_set x i j _ h0 hlt (by omega), if_pos e]; omega
    ·rw [hr j (by omega) h2]; omega
   ·rw [hk j h1 (by omega), rd_set x i j _ h0 hlt h1, if_neg (by omega)]
  ·refine ⟨x, ev_rs 0 fun m _ => ?_, rfl, fun j h1 h2 => by omega, fun j _ _ => rfl⟩
   simp (disch := omega) only [laws_markIntS.l0, if_neg]
   rw [show a + ((x.length : Int) - i) = a by omega]
theorem heldIntS_l (d : Nat) : ∀ (x : List Int) (a i : Int), 0 ≤ i → 0 ≤ a → a + (x.length - i) < 1152921504606846976 → i ≤ x.length → (x.length : Int) < 1152921504606846976 → (x.length : Int) - i ≤ d → Runs x a i →
  (∃ K, ∀ k, K ≤ k → laws_heldIntS.l0 k x a i = some (a + (x.length - i))) := by
 induction d with
 | zero =>
  intro x a i h0 ha hb hi hn hd hr
  refine ev_rs 0 fun m _ => ?_
  simp (disch := omega) only [laws_heldIntS.l0, if_neg]
  rw [show a + ((x.length : Int) - i) = a by omega]
 | succ d ih =>
  intro x a i h0 ha hb hi hn hd hr
  by_cases hlt : i < (x.length : Int)
  ·obtain ⟨K, ih⟩ := ih x (a + 1) (i + 1) (by omega) (by omega) (by omega) (by omega) hn (by omega) (fun j h1 h2 => by rw [hr j (by omega) h2]; omega)
   refine ev_rs K fun m hm => ?_
   have he : rd x i = a := by rw [hr i (Int.le_refl _) hlt]; omega
   simp (disch := omega) only [laws_heldIntS.l0, if_pos, w64]
   rw [ih m hm]
   rw [show a + 1 + ((x.length : Int) - (i + 1)) = a + (x.length - i) by omega]
  ·refine ev_rs 0 fun m _ => ?_
   simp (disch := omega) only [laws_heldIntS.l0, if_neg]
   rw [show a + ((x.length : Int) - i) = a by omega]
theorem marks_any (x : List Int) (a : Int) (ha : 0 ≤ a) (hb : a + x.length < 1152921504606846976) :
  ∃ y, (∃ K, ∀ k, K ≤ k → laws_markIntS.f k x a = some ((a + x.length, y))) ∧ y.length = x.length ∧ (∃ K, ∀ k, K ≤ k → laws_heldIntS.f k y a = some (a + x.length)) := by
 obtain ⟨y, h, hl, hr, _⟩ := markIntS_l x.length x a 0 (by omega) ha (by omega) (by omega) (by omega) (by omega)
 refine ⟨y, ?_, hl, ?_⟩
 ·simpa [laws_markIntS.f] using h
 ·have := heldIntS_l y.length y a 0 (by omega) ha (by omega) (by omega) (by omega) (by omega) hr
  simpa [laws_heldIntS.f, hl] using this
theorem in_any (a lo hi : Int) : impl_in.f a lo hi = some (decide (lo ≤ a ∧ a ≤ hi)) := by
 unfold impl_in.f
 by_cases h : lo ≤ a <;> simp [h]
theorem l1In_any (a lo hi : Int) : spec_l1In.f a lo hi = some (decide (lo ≤ a ∧ a ≤ hi)) := by
 unfold spec_l1In.f
 by_cases h : lo ≤ a
 ·rw [if_pos h]; simp [h]
 ·rw [if_neg h]; simp [h]
def AllIn (n : Int) (q : Int → Int) (i : Int) : Prop := ∀ j : Int, i ≤ j → j < n → 0 ≤ q j ∧ q j < n ∧ q j ≠ j ∧ q (q j) = j
def NoCross (n : Int) (q : Int → Int) (i : Int) : Prop := ∀ a b, i ≤ a → a < n → a < b → b < q a → a ≤ q b ∧ q b ≤ q a
theorem sys_of {n : Int} {q : Int → Int} : Pl.Sys n q ↔ AllIn n q 0 ∧ NoCross n q 0 :=
 ⟨fun s => ⟨fun j h0 h1 => ⟨s.lo j h0 h1, s.hi j h0 h1, s.ne j h0 h1, s.inv j h0 h1⟩, s.cr⟩,
 fun ⟨h, c⟩ => ⟨fun j h0 h1 => (h j h0 h1).1, fun j h0 h1 => (h j h0 h1).2.1, fun j h0 h1 => (h j h0 h1).2.2.1, fun j h0 h1 => (h j h0 h1).2.2.2, c⟩⟩
theorem isSystem_l2 (l : List Int) (hn : l.length < 4611686018427387904) (a : Int) (ha : 0 ≤ a) (hal : a < l.length) (hA : AllIn l.length (rd l) 0)
  (h1 : (∃ K, ∀ k, K ≤ k → impl_isSystem.l1 k l l l.length (a + 1) = some (tf (NoCross l.length (rd l) (a + 1))))) (d : Nat) :
  ∀ b : Int, a < b → rd l a - b ≤ d → (∃ K, ∀ k, K ≤ k → impl_isSystem.l2 k l a (rd l a) b l l.length a = some (tf ((∀ b' : Int, b ≤ b' → b' < rd l a → a ≤ rd l b' ∧ rd l b' ≤ rd l a) ∧ NoCross l.length (rd l) (a + 1)))) := by
 have hq := hA a ha hal
 obtain ⟨K1, h1⟩ := h1
 have out : ∀ b : Int, a < b → ¬ b < rd l a → (∃ K, ∀ k, K ≤ k → impl_isSystem.l2 k l a (rd l a) b l l.length a = some (tf ((∀ b' : Int, b ≤ b' → b' < rd l a → a ≤ rd l b' ∧ rd l b' ≤ rd l a) ∧ NoCross l.length (rd l) (a + 1)))) := by
  intro b hb hlt
  refine ev_rs K1 fun m hm => ?_
  simp (disch := omega) only [impl_isSystem.l2, if_neg, w64]
  rw [h1 m hm]
  congr 1
  exact tf_c ⟨fun h => ⟨fun b' _ _ => by omega, h⟩, fun h => h.2⟩
 induction d with
 | zero =>
  intro b hb hd
  exact out b hb (by omega)
 | succ d ih =>
  intro b hb hd
  by_cases hlt : b < rd l a
  ·obtain ⟨K, ih⟩ := ih (b + 1) (by omega) (by omega)
   by_cases he : a ≤ rd l b ∧ rd l b ≤ rd l a
   ·refine ev_rs K fun m hm => ?_
    simp (disch := omega) only [impl_isSystem.l2, if_pos, w64, in_any, Option.bind_some]
    rw [decide_eq_true he]
    simp only [if_true]
    rw [ih m hm]
    congr 1
    refine tf_c ⟨fun h => ⟨fun b' h2 h3 => ?_, h.2⟩, fun h => ⟨fun b' h2 h3 => h.1 b' (by omega) h3, h.2⟩⟩
    by_cases e : b' = b
    ·rw [e]; exact he
    ·exact h.1 b' (by omega) h3
   ·refine ev_rs 0 fun m hm => ?_
    simp (disch := omega) only [impl_isSystem.l2, if_pos, in_any, Option.bind_some]
    rw [decide_eq_false he, tf_f]
    ·simp
    ·exact fun h => he (h.1 b (Int.le_refl _) hlt)
  ·exact out b hb hlt
theorem isSystem_l1 (l : List Int) (hn : l.length < 4611686018427387904) (hA : AllIn l.length (rd l) 0) (d : Nat) : ∀ a : Int, 0 ≤ a → (l.length : Int) - a ≤ d →
  (∃ K, ∀ k, K ≤ k → impl_isSystem.l1 k l l l.length a = some (tf (NoCross l.length (rd l) a))) := by
 have out : ∀ a : Int, ¬ a < l.length → (∃ K, ∀ k, K ≤ k → impl_isSystem.l1 k l l l.length a = some (tf (NoCross l.length (rd l) a))) := by
  intro a hlt
  refine ev_rs 0 fun m hm => ?_
  simp (disch := omega) only [impl_isSystem.l1, if_neg]
  rw [tf_t]
  intro a' b h1 h2; omega
 induction d with
 | zero => intro a h0 hd; exact out a (by omega)
 | succ d ih =>
  intro a h0 hd
  by_cases hlt : a < (l.length : Int)
  ·have h1 := ih (a + 1) (by omega) (by omega)
   have hq := hA a h0 hlt
   obtain ⟨K, h2⟩ := isSystem_l2 l hn a h0 hlt hA h1 (rd l a - (a + 1)).toNat (a + 1) (by omega) (by omega)
   refine ev_rs K fun m hm => ?_
   simp (disch := omega) only [impl_isSystem.l1, if_pos, w64]
   rw [h2 m hm]
   congr 1
   refine tf_c ⟨fun h a' b h3 h4 h5 h6 => ?_, fun h => ⟨fun b' h3 h4 => h a b' (Int.le_refl _) hlt (by omega) h4, fun a' b h3 h4 h5 h6 => h a' b (by omega) h4 h5 h6⟩⟩
   by_cases e : a' = a
   ·subst e; exact h.1 b (by omega) h6
   ·exact h.2 a' b (by omega) h4 h5 h6
  ·exact out a hlt
theorem isSystem_l0 (l : List Int) (hn : l.length < 4611686018427387904) (d : Nat) : ∀ i : Int, 0 ≤ i → (l.length : Int) - i ≤ d → (∀ j : Int, 0 ≤ j → j < i → 0 ≤ rd l j ∧ rd l j < l.length ∧ rd l j ≠ j ∧ rd l (rd l j) = j) →
  (∃ K, ∀ k, K ≤ k → impl_isSystem.l0 k l l l.length i = some (tf (AllIn l.length (rd l) i ∧ NoCross l.length (rd l) 0))) := by
 have out : ∀ i : Int, 0 ≤ i → ¬ i < l.length → (∀ j : Int, 0 ≤ j → j < i → 0 ≤ rd l j ∧ rd l j < l.length ∧ rd l j ≠ j ∧ rd l (rd l j) = j) → (∃ K, ∀ k, K ≤ k → impl_isSystem.l0 k l l l.length i = some (tf (AllIn l.length (rd l) i ∧ NoCross l.length (rd l) 0))) := by
  intro i h0 hlt hp
  obtain ⟨K, h1⟩ := isSystem_l1 l hn (fun j h1 h2 => hp j h1 (by omega)) l.length 0 (by omega) (by omega)
  refine ev_rs K fun m hm => ?_
  simp (disch := omega) only [impl_isSystem.l0, if_neg]
  rw [h1 m hm]
  congr 1
  exact tf_c ⟨fun h => ⟨fun j _ _ => by omega, h⟩, fun h => h.2⟩
 induction d with
 | zero => intro i h0 hd hp; exact out i h0 (by omega) hp
 | succ d ih =>
  intro i h0 hd hp
  by_cases hlt : i < (l.length : Int)
  ·by_cases hr : 0 ≤ rd l i ∧ rd l i ≤ (l.length : Int) - 1
   ·by_cases hs : rd l i = i
    ·refine ev_rs 0 fun m hm => ?_
     simp (disch := omega) only [impl_isSystem.l0, if_pos, w64, in_any, Option.bind_some]
     rw [decide_eq_true hr, tf_f]
     ·simp [hs]
     ·exact fun h => (h.1 i (Int.le_refl _) hlt).2.2.1 hs
    ·by_cases hi : rd l (rd l i) = i
     ·obtain ⟨K, ih⟩ := ih (i + 1) (by omega) (by omega) (fun j h1 h2 => by
       by_cases e : j = i
       ·subst e; exact ⟨by omega, by omega, hs, hi⟩
       ·exact hp j h1 (by omega))
      refine ev_rs K fun m hm => ?_
      simp (disch := omega) only [impl_isSystem.l0, if_pos, if_neg, w64, in_any, Option.bind_some]
      rw [decide_eq_true hr, if_pos rfl, ih m hm]
      congr 1
      refine tf_c ⟨fun h => ⟨fun j h1 h2 => ?_, h.2⟩, fun h => ⟨fun j h1 h2 => h.1 j (by omega) h2, h.2⟩⟩
      by_cases e : j = i
      ·subst e; exact ⟨by omega, by omega, hs, hi⟩
      ·exact h.1 j (by omega) h2
     ·refine ev_rs 0 fun m hm => ?_
      simp (disch := omega) only [impl_isSystem.l0, if_pos, if_neg, w64, in_any, Option.bind_some]
      rw [decide_eq_true hr, tf_f]
      ·simp
      ·exact fun h => hi (h.1 i (Int.le_refl _) hlt).2.2.2
   ·refine ev_rs 0 fun m hm => ?_
    simp (disch := omega) only [impl_isSystem.l0, if_pos, w64, in_any, Option.bind_some]
    rw [decide_eq_false hr, tf_f]
    ·simp
    ·exact fun h => hr (by have := h.1 i (Int.le_refl _) hlt; omega)
  ·exact out i h0 hlt hp
noncomputable def sysB (l : List Int) : Bool := tf (l.length ≤ 12 ∧ Pl.Sys l.length (rd l))
theorem isSystem_any (l : List Int) (hn : l.length < 4611686018427387904) : (∃ K, ∀ k, K ≤ k → impl_isSystem.f k l = some (tf (Pl.Sys l.length (rd l)))) := by
 obtain ⟨K, h⟩ := isSystem_l0 l hn l.length 0 (by omega) (by omega) (fun j _ _ => by omega)
 refine ⟨K, fun k hk => ?_⟩
 unfold impl_isSystem.f
 rw [h k hk]
 exact congrArg _ (tf_c sys_of.symm)
theorem IsSystem_any (l : List Int) (hn : l.length < 4611686018427387904) : (∃ K, ∀ k, K ≤ k → impl_IsSystem.f k l = some (sysB l)) := by
 obtain ⟨K, h⟩ := isSystem_any l hn
 refine ⟨K, fun k hk => ?_⟩
 unfold impl_IsSystem.f sysB
 by_cases h12 : (l.length : Int) ≤ 12
 ·rw [if_pos h12, h k hk]
  exact congrArg _ (tf_c ⟨fun h => ⟨by omega, h⟩, fun h => h.2⟩)
 ·rw [if_neg h12, tf_f]
  exact fun h => h12 (by omega)
theorem l1All_l (l : List Int) (hn : l.length < 4611686018427387904) (lo hi : Int) (d : Nat) : ∀ i : Int, 0 ≤ i → (l.length : Int) - i ≤ d →
  (∃ K, ∀ k, K ≤ k → spec_l1All.l0 k lo hi l l.length i = some (tf (∀ j : Int, i ≤ j → j < l.length → lo ≤ rd l j ∧ rd l j ≤ hi))) := by
 have out : ∀ i : Int, ¬ i < l.length → (∃ K, ∀ k, K ≤ k → spec_l1All.l0 k lo hi l l.length i = some (tf (∀ j : Int, i ≤ j → j < l.length → lo ≤ rd l j ∧ rd l j ≤ hi))) := by
  intro i hlt
  refine ev_rs 0 fun m hm => ?_
  simp (disch := omega) only [spec_l1All.l0, if_neg]
  rw [tf_t]
  intro j h1 h2; omega
 induction d with
 | zero => intro i h0 hd; exact out i (by omega)
 | succ d ih =>
  intro i h0 hd
  by_cases hlt : i < (l.length : Int)
  ·obtain ⟨K, ih⟩ := ih (i + 1) (by omega) (by omega)
   by_cases he : lo ≤ rd l i ∧ rd l i ≤ hi
   ·refine ev_rs K fun m hm => ?_
    simp (disch := omega) only [spec_l1All.l0, if_pos, w64, l1In_any, Option.bind_some]
    rw [decide_eq_true he, if_pos rfl, ih m hm]
    congr 1
    refine tf_c ⟨fun h j h1 h2 => ?_, fun h j h1 h2 => h j (by omega) h2⟩
    by_cases e : j = i
    ·rw [e]; exact he
    ·exact h j (by omega) h2
   ·refine ev_rs 0 fun m hm => ?_
    simp (disch := omega) only [spec_l1All.l0, if_pos, l1In_any, Option.bind_some]
    rw [decide_eq_false he, tf_f]
    ·simp
    ·exact fun h => he (h i (Int.le_refl _) hlt)
  ·exact out i hlt
theorem l1All_any (l : List Int) (hn : l.length < 4611686018427387904) (lo hi : Int) : (∃ K, ∀ k, K ≤ k → spec_l1All.f k l lo hi = some (tf (∀ j : Int, 0 ≤ j → j < l.length → lo ≤ rd l j ∧ rd l j ≤ hi))) :=
 l1All_l l hn lo hi l.length 0 (by omega) (by omega)
theorem ahGood_l (l : List Int) (hn : l.length ≤ 12) (hR : ∀ j : Int, 0 ≤ j → j < l.length → 0 ≤ rd l j ∧ rd l j ≤ (l.length : Int) - 1) (d : Nat) : ∀ (i : Int) (op : List Int), 0 ≤ i → i ≤ l.length → (l.length : Int) - i ≤ d → (op.length : Int) ≤ i →
  Pl.Ideal (rd l) i op ∨ (Pl.Doomed l.length (rd l) i op ∧ ¬ Pl.Sys l.length (rd l)) →
  (∃ K, ∀ k, K ≤ k → spec_ahGood.l0 k l op l l.length i = some (tf (Pl.Sys l.length (rd l)))) := by
 have out : ∀ (i : Int) (op : List Int), i ≤ l.length → ¬ i < l.length → Pl.Ideal (rd l) i op ∨ (Pl.Doomed l.length (rd l) i op ∧ ¬ Pl.Sys l.length (rd l)) →
  (∃ K, ∀ k, K ≤ k → spec_ahGood.l0 k l op l l.length i = some (tf (Pl.Sys l.length (rd l)))) := by
  intro i op hi hlt h
  rcases h with h | h
  ·have e : i = l.length := by omega
   subst e
   refine ev_rs 0 fun m hm => ?_
   simp (disch := omega) only [spec_ahGood.l0, if_neg]
   rw [tf_t (h.finish (fun j h0 h1 => (hR j h0 h1).1) (fun j h0 h1 => by have := hR j h0 h1; omega))]
  ·have := h.1.lt; omega
 induction d with
 | zero => intro i op h0 hi hd hop h; exact out i op hi (by omega) h
 | succ d ih =>
  intro i op h0 hi hd hop h
  by_cases hlt : i < (l.length : Int)
  ·have hr := hR i h0 hlt
   by_cases hgt : rd l i > i
   ·by_cases he : rd l (rd l i) = i
    ·-- an arch begins
     obtain ⟨K, ih⟩ := ih (i + 1) (i :: op) (by omega) (by omega) (by omega) (by simp; omega) (by
      rcases h with h | h
      ·exact .inl (h.push h0 hgt he)
      ·exact .inr ⟨h.1.push hgt, h.2⟩)
     refine ev_rs (K + 1) fun m hm => ?_
     obtain ⟨m, rfl⟩ : ∃ m', m = m' + 1 := ⟨m - 1, by omega⟩
     have hb : (rd l (rd l i) == i) = true := by simp [he]
     simp (disch := omega) only [spec_ahGood.l0, if_pos, w64]
     rw [hb]
     simp only [spec_ahGood.j2, if_true, Option.bind_some]
     rw [if_pos (by simp; omega), w64 (by omega) (by omega)]
     exact ih m (by omega)
    ·have hb : (rd l (rd l i) == i) = false := by simp [he]
     refine ev_rs 1 fun m hm => ?_
     obtain ⟨m, rfl⟩ : ∃ m', m = m' + 1 := ⟨m - 1, by omega⟩
     simp (disch := omega) only [spec_ahGood.l0, if_pos, w64]
     rw [hb, tf_f (Pl.Ideal.fail_push he h0 hlt)]
     simp (disch := omega) only [spec_ahGood.j2, Bool.false_eq_true, if_false, if_neg]
   ·by_cases hs : rd l i = i
    ·refine ev_rs 1 fun m hm => ?_
     obtain ⟨m, rfl⟩ : ∃ m', m = m' + 1 := ⟨m - 1, by omega⟩
     simp (disch := omega) only [spec_ahGood.l0, if_pos, if_neg, w64]
     rw [tf_f (Pl.Ideal.fail_self hs h0 hlt)]
     simp (disch := omega) only [spec_ahGood.j2, Bool.false_eq_true, if_false, if_neg]
    ·have hls : rd l i < i := by omega
     have stop : op.head? ≠ some (rd l i) → ¬ Pl.Sys l.length (rd l) := fun hh => by
      rcases h with h | h
      ·exact h.fail_pop h0 hlt hls hh
      ·exact h.2
     cases op with
     | nil =>
      refine ev_rs 1 fun m hm => ?_
      obtain ⟨m, rfl⟩ : ∃ m', m = m' + 1 := ⟨m - 1, by omega⟩
      simp (disch := omega) only [spec_ahGood.l0, if_pos, if_neg, w64]
      rw [tf_f (stop (by simp))]
      simp (disch := omega) only [spec_ahGood.j2, Bool.false_eq_true, if_false, if_pos]
      simp
     | cons b t =>
      have hd0 : rd (b :: t) 0 = b := rfl
      by_cases hbt : b = rd l i
      ·obtain ⟨K, ih⟩ := ih (i + 1) t (by omega) (by omega) (by omega) (by simp at hop; omega) (by
        rcases h with h | h
        ·by_cases he : rd l b = i
         ·exact .inl (h.pop h0 hbt.symm (by omega) he (fun b h1 h2 => (hR b h1 (by omega)).1))
         ·refine .inr ⟨h.doom h0 hbt.symm (by omega) he ?_, ?_⟩
          ·have := (hR b (by omega) (by omega)).2; omega
          ·intro s
           have := s.inv i h0 hlt
           rw [← hbt] at this; exact he this
        ·exact .inr ⟨h.1.pop hbt.symm, h.2⟩)
       refine ev_rs (K + 1) fun m hm => ?_
       obtain ⟨m, rfl⟩ : ∃ m', m = m' + 1 := ⟨m - 1, by omega⟩
       simp (disch := omega) only [spec_ahGood.l0, if_pos, if_neg, w64]
       simp only [spec_ahGood.j2, Bool.false_eq_true, if_false]
       rw [if_pos hls, if_pos (by simp), if_pos (by simp), hd0, if_pos hbt, if_pos (by simp; omega), w64 (by omega) (by omega)]
       exact ih m (by omega)
      ·refine ev_rs 1 fun m hm => ?_
       obtain ⟨m, rfl⟩ : ∃ m', m = m' + 1 := ⟨m - 1, by omega⟩
       simp (disch := omega) only [spec_ahGood.l0, if_pos, if_neg, w64]
       simp only [spec_ahGood.j2, Bool.false_eq_true, if_false]
       rw [if_pos hls, if_pos (by simp), if_pos (by simp), hd0, if_neg hbt, tf_f (stop (by simpa using hbt))]
  ·exact out i op hi hlt h
theorem ahGood_any (l : List Int) (hn : l.length < 4611686018427387904) : (∃ K, ∀ k, K ≤ k → spec_ahGood.f k l = some (sysB l)) := by
 unfold sysB
 by_cases h2 : (l.length : Int) % 2 = 1
 ·refine ev_rs 0 fun m hm => ?_
  unfold spec_ahGood.f
  rw [if_pos h2, tf_f]
  ·simp [spec_ahGood.j0]
  ·intro h
   have := h.2.even (by omega)
   omega
 ·by_cases h12 : (l.length : Int) > 12
  ·refine ev_rs 0 fun m hm => ?_
   unfold spec_ahGood.f
   rw [if_neg h2, if_pos h12, tf_f]
   ·simp [spec_ahGood.j0]
   ·intro h; omega
  ·obtain ⟨K, h⟩ := l1All_any l hn 0 ((l.length : Int) - 1)
   by_cases hR : ∀ j : Int, 0 ≤ j → j < (l.length : Int) → 0 ≤ rd l j ∧ rd l j ≤ (l.length : Int) - 1
   ·obtain ⟨K2, h3⟩ := ahGood_l l (by omega) hR l.length 0 [] (by omega) (by omega) (by omega) (by simp) (.inl (.start _))
    refine ev_rs (K + K2) fun m hm => ?_
    unfold spec_ahGood.f
    rw [if_neg h2, if_neg h12, w64 (by omega) (by omega), h (m + 1) (by omega), tf_t hR]
    simp only [Option.bind_some, Bool.not_true, spec_ahGood.j0, Bool.false_eq_true, if_false]
    rw [h3 m (by omega)]
    exact congrArg _ (tf_c ⟨fun h => ⟨by omega, h⟩, fun h => h.2⟩)
   ·refine ev_rs K fun m hm => ?_
    unfold spec_ahGood.f
    rw [if_neg h2, if_neg h12, w64 (by omega) (by omega), h (m + 1) (by omega), tf_f hR, tf_f]
    ·simp [spec_ahGood.j0]
    ·intro s
     exact hR fun j h0 h1 => ⟨s.2.lo j h0 h1, by have := s.2.hi j h0 h1; omega⟩
theorem sysB_mem {l : List Int} (h : sysB l = true) : l.length / 2 < 7 ∧ l ∈ Pl.sysList (l.length / 2) := by
 have := tf_iff.1 h
 exact ⟨by omega, Pl.Sys.mem this.2 this.1⟩
theorem of_table {P : List Int → Bool} (h : ((List.range 7).all fun n => (Pl.sysList n).all P) = true) {l : List Int} (hl : sysB l = true) : P l = true := by
 obtain ⟨h7, hm⟩ := sysB_mem hl
 exact List.all_eq_true.1 (List.all_eq_true.1 h _ (List.mem_range.2 h7)) _ hm
theorem szInt_any (l : List Int) (a : Int) (ha : a ≤ 1048576) (h0 : 0 ≤ a) (hn : l.length < 4611686018427387904) : laws_szIntS.f l a = some (if a < l.length then -1 else a - l.length) := by
 unfold laws_szIntS.f
 rw [w64 (by omega) (by omega)]
 by_cases h : a < l.length
 ·rw [if_pos h, if_pos (by omega)]
 ·rw [if_neg h, if_neg (by omega)]
theorem szMeander_at (l m : List Int) (a : Int) (h0 : 0 ≤ a) (ha : a ≤ 1048576) (hl : l.length < 4611686018427387904) (hm : m.length < 4611686018427387904) :
  ∃ r, laws_szMeander.f l m a = some r ∧ (r < 0 ∨ (l.length + m.length ≤ a ∧ 0 ≤ r ∧ r ≤ a)) := by
 unfold laws_szMeander.f
 rw [szInt_any l _ (by omega) (by omega) hl, Option.bind_some]
 by_cases h1 : a < l.length
 ·rw [if_pos h1]; exact ⟨-1, by simp, by omega⟩
 ·rw [if_neg h1, if_neg (by omega), szInt_any m _ (by omega) (by omega) hm, Option.bind_some]
  by_cases h2 : a - l.length < m.length
  ·rw [if_pos h2]; exact ⟨-1, by simp, by omega⟩
  ·rw [if_neg h2, if_neg (by omega)]; exact ⟨_, rfl, by omega⟩
theorem toMeander_any (l m : List Int) (hl : l.length ≤ 35184372088832) (hm : m.length ≤ 35184372088832) : (∃ K, ∀ k, K ≤ k → laws_toMeander.f k l m = some ((l, m))) := by
 obtain ⟨K1, h1⟩ := toIntS_any l hl
 obtain ⟨K2, h2⟩ := toIntS_any m hm
 refine ⟨K1 + K2, fun k hk => ?_⟩
 simp (disch := omega) only [laws_toMeander.f, h1, h2, Option.bind_some]
theorem eqMeander_any (a b c d : List Int) (ha : a.length < 4611686018427387904) (hb : b.length < 4611686018427387904) : (∃ K, ∀ k, K ≤ k → laws_eqMeander.f k a b c d = some (decide (a = c ∧ b = d))) := by
 obtain ⟨K1, h1⟩ := eqIntS_any a c ha
 obtain ⟨K2, h2⟩ := eqIntS_any b d hb
 refine ⟨K1 + K2, fun k hk => ?_⟩
 simp (disch := omega) only [laws_eqMeander.f, h1, h2, Option.bind_some]
 by_cases e1 : a = c <;> by_cases e2 : b = d <;> simp [e1, e2]
noncomputable def pairB (l m : List Int) : Bool := sysB l && sysB m && decide (l.length = m.length)
theorem IsPair_any (l m : List Int) (hl : l.length < 4611686018427387904) (hm : m.length < 4611686018427387904) : (∃ K, ∀ k, K ≤ k → impl_IsPair.f k l m = some (pairB l m)) := by
 obtain ⟨K1, h1⟩ := IsSystem_any l hl
 obtain ⟨K2, h2⟩ := IsSystem_any m hm
 refine ⟨K1 + K2, fun k hk => ?_⟩
 simp (disch := omega) only [impl_IsPair.f, h1, h2, Option.bind_some, pairB]
 cases sysB l <;> cases sysB m <;> simp
 by_cases e : l.length = m.length
 ·simp [e]
 ·simp [e]; omega
theorem mePair_any (l m : List Int) (hl : l.length < 4611686018427387904) (hm : m.length < 4611686018427387904) : (∃ K, ∀ k, K ≤ k → spec_mePair.f k l m = some (pairB l m)) := by
 obtain ⟨K1, h1⟩ := ahGood_any l hl
 obtain ⟨K2, h2⟩ := ahGood_any m hm
 refine ⟨K1 + K2, fun k hk => ?_⟩
 simp (disch := omega) only [spec_mePair.f, h1, h2, Option.bind_some, pairB]
 cases sysB l <;> cases sysB m <;> simp
 by_cases e : l.length = m.length
 ·simp [e]
 ·simp [e]; omega
theorem markM1_any (l m : List Int) (a : Int) (ha : 0 ≤ a) (hb : a + l.length + m.length < 1152921504606846976) :
  ∃ y z, (∃ K, ∀ k, K ≤ k → laws_markMeander.f k l m a = some ((a + l.length + m.length, y, z))) := by
 obtain ⟨y, ⟨K1, h1⟩, hy, _⟩ := marks_any l a ha (by omega)
 obtain ⟨z, ⟨K3, h3⟩, hz, _⟩ := marks_any m (a + l.length) (by omega) (by omega)
 exact ⟨y, z, K1 + K3, fun k hk => by simp (disch := omega) only [laws_markMeander.f, h1, h3, Option.bind_some]⟩
def stepOf (l m : List Int) (i : Int) : Int := if rd l i < i then (if rd m i < i then 3 else 2) else (if rd m i < i then 1 else 0)
def stL (l m : List Int) : Nat → List Int → Int → List Int
 | 0, out, _ => out
 | d + 1, out, i => stL l m d (out ++ [stepOf l m i]) (i + 1)
theorem stL_length (l m : List Int) (d : Nat) : ∀ out i, (stL l m d out i).length = out.length + d := by
 induction d with
 | zero => intro out i; rfl
 | succ d ih => intro out i; unfold stL; rw [ih]; simp; omega
theorem implSteps_l (l m : List Int) (hl : l.length ≤ 1048576) (hm : l.length = m.length) (d : Nat) : ∀ (out : List Int) (i : Int), 0 ≤ i → (l.length : Int) = i + d → out.length + d ≤ 4194304 → (∃ K, ∀ k, K ≤ k → impl_Meander_steps.l0 k out l l.length i l m = some (stL l m d out i)) := by
 induction d with
 | zero =>
  intro out i h0 hd ho
  refine ev_rs 0 fun m _ => ?_
  simp (disch := omega) only [impl_Meander_steps.l0, if_neg, stL]
 | succ d ih =>
  intro out i h0 hd ho
  obtain ⟨K, ih⟩ := ih (out ++ [stepOf l m i]) (i + 1) (by omega) (by omega) (by simp; omega)
  refine ev_rs K fun n hn => ?_
  have ih := ih n hn
  simp only [impl_Meander_steps.l0, stL]
  rw [w64 (x := i + 1) (by omega) (by omega), if_pos (by omega), if_pos h0, if_pos (by omega)]
  unfold stepOf at ih ⊢
  by_cases e1 : rd l i < i <;> by_cases e2 : rd m i < i <;> simp only [e1, e2, if_true, if_false] at ih ⊢ <;> rw [if_pos (show i < (m.length : Int) by omega), if_pos (show out.length < 17592186044416 by omega)] <;> exact ih
theorem specSteps_l (l m : List Int) (hl : l.length ≤ 1048576) (hm : l.length = m.length) (d : Nat) : ∀ (out : List Int) (i : Int), 0 ≤ i → (l.length : Int) = i + d → out.length + d ≤ 4194304 → (∃ K, ∀ k, K ≤ k → spec_stSteps.l0 k out l l.length i l m = some (stL l m d out i)) := by
 induction d with
 | zero =>
  intro out i h0 hd ho
  refine ev_rs 0 fun m _ => ?_
  simp (disch := omega) only [spec_stSteps.l0, if_neg, stL]
 | succ d ih =>
  intro out i h0 hd ho
  obtain ⟨K, ih⟩ := ih (out ++ [stepOf l m i]) (i + 1) (by omega) (by omega) (by simp; omega)
  refine ev_rs K fun n hn => ?_
  have ih := ih n hn
  simp only [spec_stSteps.l0, stL]
  rw [w64 (x := i + 1) (by omega) (by omega), if_pos (by omega), if_pos h0, if_pos (by omega)]
  unfold stepOf at ih ⊢
  by_cases e1 : rd l i < i <;> by_cases e2 : rd m i < i <;> simp only [e1, e2, if_true, if_false] at ih ⊢ <;> rw [if_pos (show i < (m.length : Int) by omega), if_pos (show out.length < 17592186044416 by omega)] <;> exact ih
def stepsL (l m : List Int) : List Int := stL l m l.length [] 0
theorem implSteps_any (l m : List Int) (hl : l.length ≤ 1048576) (hm : l.length = m.length) : (∃ K, ∀ k, K ≤ k → impl_Meander_steps.f k l m = some (stepsL l m)) := implSteps_l l m hl hm l.length [] 0 (by omega) (by omega) (by simp; omega)
theorem specSteps_any (l m : List Int) (hl : l.length ≤ 1048576) (hm : l.length = m.length) : (∃ K, ∀ k, K ≤ k → spec_stSteps.f k l m = some (stepsL l m)) := specSteps_l l m hl hm l.length [] 0 (by omega) (by omega) (by simp; omega)
theorem eqState_any (a b : List Int) (x : Int) (c d : List Int) (y : Int) (ha : a.length < 4611686018427387904) (hb : b.length < 4611686018427387904) : (∃ K, ∀ k, K ≤ k → laws_eqState.f k a b x c d y = some (decide (a = c ∧ b = d ∧ x = y))) := by
 obtain ⟨K1, h1⟩ := eqIntS_any a c ha
 obtain ⟨K2, h2⟩ := eqIntS_any b d hb
 refine ⟨K1 + K2, fun k hk => ?_⟩
 simp (disch := omega) only [laws_eqState.f, h1, h2, Option.bind_some]
 by_cases e1 : a = c <;> by_cases e2 : b = d <;> by_cases e3 : x = y <;> simp [e1, e2, e3]
theorem markState_any (l m : List Int) (c a : Int) (ha : 0 ≤ a) (hb : a + l.length + m.length < 1152921504606846976) :
  ∃ y z, (∃ K, ∀ k, K ≤ k → laws_markState.f k l m c a = some ((a + l.length + m.length, y, z))) ∧ y.length = l.length ∧ z.length = m.length ∧ (∃ K, ∀ k, K ≤ k → laws_heldState.f k y z c a = some (a + l.length + m.length)) := by
 obtain ⟨y, ⟨K1, h1⟩, hy, ⟨K2, h2⟩⟩ := marks_any l a ha (by omega)
 obtain ⟨z, ⟨K3, h3⟩, hz, ⟨K4, h4⟩⟩ := marks_any m (a + l.length) (by omega) (by omega)
 refine ⟨y, z, ⟨K1 + K3, fun k hk => ?_⟩, hy, hz, ⟨K2 + K4, fun k hk => ?_⟩⟩
 ·simp (disch := omega) only [laws_markState.f, h1, h3, Option.bind_some]
 ·simp (disch := omega) only [laws_heldState.f, h2, h4, Option.bind_some, if_neg]
def Cnt2 (W : List Int) : Prop := ∀ x ∈ W, W.count x = 2
def NPat (W : List Int) : Prop := ∀ a b, a ≠ b → ¬ List.Sublist [a, b, a, b] W
def par : List Int → List Int → List Int → Bool
 | [], S, _ => S.isEmpty
 | x :: r, S, D => if x ∈ D then false else if x ∈ S then (match S with | [] => false | y :: S' => if y = x then par r S' (x :: D) else false) else par r (x :: S) D
structure PI (R S D : List Int) : Prop where
 sub : List.Sublist S R
 one : ∀ x, x ∈ S ↔ R.count x = 1
 two : ∀ x, x ∈ D ↔ R.count x = 2
 le : ∀ x, R.count x ≤ 2
 j : ∀ a x, R.count x = 1 → a ≠ x → ¬ List.Sublist [a, x, a] R
 np : NPat R
theorem PI.start : PI [] [] [] := ⟨.refl _, by simp, by simp, by simp, by simp, by intro a b _ h; cases h⟩
theorem sub_ne {a c : Int} {l R : List Int} (h : List.Sublist (a :: l) (c :: R)) (e : a ≠ c) : List.Sublist (a :: l) R := by
 cases h with
 | cons _ h => exact h
 | cons_cons _ h => exact absurd rfl e
theorem sub_tl {a c : Int} {l R : List Int} (h : List.Sublist (a :: l) (c :: R)) : List.Sublist l R := by
 cases h with
 | cons _ h => exact (List.sublist_cons_self a l).trans h
 | cons_cons _ h => exact h
theorem sub_mem {a : Int} {l R : List Int} (h : List.Sublist l R) (m : a ∈ l) : a ∈ R := h.subset m
theorem ord_no {x z : Int} (e : x ≠ z) : ∀ R : List Int, R.count x = 1 → R.count z = 1 → List.Sublist [x, z] R → List.Sublist [z, x] R → False
 | [], _, _, h, _ => by cases h
 | c :: R, h1, h2, h3, h4 => by
  by_cases ex : c = x
  ·subst ex
   have := sub_mem (sub_ne h4 (Ne.symm e)) (a := c) (by simp)
   have h5 := List.count_pos_iff.2 this
   rw [List.count_cons_self] at h1; omega
  ·by_cases ez : c = z
   ·subst ez
    have := sub_mem (sub_ne h3 e) (a := c) (by simp)
    have h5 := List.count_pos_iff.2 this
    rw [List.count_cons_self] at h2; omega
   ·exact ord_no e R (by rw [List.count_cons_of_ne ex] at h1; exact h1) (by rw [List.count_cons_of_ne ez] at h2; exact h2) (sub_ne h3 (Ne.symm ex)) (sub_ne h4 (Ne.symm ez))
theorem PI.push {R S D : List Int} (h : PI R S D) {x : Int} (h0 : R.count x = 0) : PI (x :: R) (x :: S) D := by
 have hx : x ∉ R := fun m => by have := List.count_pos_iff.2 m; omega
 refine ⟨h.sub.cons_cons x, fun z => ?_, fun z => ?_, fun z => ?_, fun a z hz ha hs => ?_, fun a b e hs => ?_⟩
 ·by_cases e : z = x
  ·subst e; rw [List.count_cons_self, h0]; simp
  ·rw [List.count_cons_of_ne (Ne.symm e), ← h.one z, List.mem_cons]; simp [e]
 ·by_cases e : z = x
  ·subst e; rw [List.count_cons_self, h.two z, h0]; omega
  ·rw [List.count_cons_of_ne (Ne.symm e), h.two z]
 ·by_cases e : z = x
  ·subst e; rw [List.count_cons_self, h0]; omega
  ·rw [List.count_cons_of_ne (Ne.symm e)]; exact h.le z
 ·by_cases e : z = x
  ·subst e
   exact hx (sub_mem (sub_ne hs ha) (by simp))
  ·rw [List.count_cons_of_ne (Ne.symm e)] at hz
   by_cases ea : a = x
   ·subst ea; exact hx (sub_mem (sub_tl hs) (by simp))
   ·exact h.j a z hz ha (sub_ne hs ea)
 ·by_cases ea : a = x
  ·subst ea; exact hx (sub_mem (sub_tl hs) (by simp))
  ·exact h.np a b e (sub_ne hs ea)
theorem PI.pop {R S D : List Int} {x : Int} (h : PI R (x :: S) D) : PI (x :: R) S (x :: D) := by
 have h1 : R.count x = 1 := (h.one x).1 (by simp)
 have hS : x ∉ S := fun m => by
  have h2 := h.sub.count_le x
  have h3 := List.count_pos_iff.2 m
  rw [List.count_cons_self] at h2; omega
 refine ⟨(List.sublist_cons_self x S).trans (h.sub.trans (List.sublist_cons_self x R)), fun z => ?_, fun z => ?_, fun z => ?_, fun a z hz ha hs => ?_, fun a b e hs => ?_⟩
 ·by_cases e : z = x
  ·subst e; rw [List.count_cons_self, h1]; simp [hS]
  ·rw [List.count_cons_of_ne (Ne.symm e), ← h.one z, List.mem_cons]; simp [e]
 ·by_cases e : z = x
  ·subst e; rw [List.count_cons_self, h1]; simp
  ·rw [List.count_cons_of_ne (Ne.symm e), ← h.two z, List.mem_cons]; simp [e]
 ·by_cases e : z = x
  ·subst e; rw [List.count_cons_self, h1]; omega
  ·rw [List.count_cons_of_ne (Ne.symm e)]; exact h.le z
 ·by_cases e : z = x
  ·subst e; rw [List.count_cons_self, h1] at hz; omega
  ·rw [List.count_cons_of_ne (Ne.symm e)] at hz
   by_cases ea : a = x
   ·subst ea
    have hzS : z ∈ S := by have := (h.one z).2 hz; simpa [e] using this
    exact ord_no ha R h1 hz ((List.Sublist.cons_cons a (List.singleton_sublist.2 hzS)).trans h.sub) (sub_tl hs)
   ·exact h.j a z hz ha (sub_ne hs ea)
 ·by_cases ea : a = x
  ·subst ea; exact h.j b a h1 (Ne.symm e) (sub_tl hs)
  ·exact h.np a b e (sub_ne hs ea)
theorem par_main : ∀ (r R S D : List Int), PI R S D → (par r S D = true ↔ Cnt2 (r.reverse ++ R) ∧ NPat (r.reverse ++ R))
 | [], R, S, D, h => by
  rw [List.reverse_nil, List.nil_append]
  refine ⟨fun e => ⟨fun x hx => ?_, h.np⟩, fun e => ?_⟩
  ·have e : S = [] := by simpa [par] using e
   subst e
   have h1 := List.count_pos_iff.2 hx
   have h2 := h.le x
   have h3 : ¬ R.count x = 1 := fun h4 => by have := (h.one x).2 h4; cases this
   omega
  ·cases S with
   | nil => rfl
   | cons y S' =>
    have h1 := (h.one y).1 (by simp)
    have h2 := e.1 y (List.count_pos_iff.1 (by omega))
    omega
 | x :: r, R, S, D, h => by
  rw [List.reverse_cons, List.append_assoc, List.singleton_append]
  unfold par
  by_cases hD : x ∈ D
  ·rw [if_pos hD]
   refine ⟨fun e => absurd e (by decide), fun e => ?_⟩
   have h1 := e.1 x (by simp)
   have h2 := (h.two x).1 hD
   rw [List.count_append, List.count_cons_self] at h1; omega
  ·rw [if_neg hD]
   by_cases hS : x ∈ S
   ·rw [if_pos hS]
    cases S with
    | nil => cases hS
    | cons y S' =>
     simp only
     by_cases e : y = x
     ·rw [if_pos e]; subst e
      exact par_main r (y :: R) S' (y :: D) h.pop
     ·rw [if_neg e]
      refine ⟨fun e => absurd e (by decide), fun g => ?_⟩
      have h1 := (h.one y).1 (by simp)
      have hx : x ∈ S' := by simpa [Ne.symm e] using hS
      have h2 := g.1 y (by have : y ∈ R := List.count_pos_iff.1 (by omega); simp [this])
      rw [List.count_append, List.count_cons_of_ne (Ne.symm e), h1] at h2
      have hy : y ∈ r.reverse := List.count_pos_iff.1 (by omega)
      have h3 : List.Sublist [y, x] R := (List.Sublist.cons_cons y (List.singleton_sublist.2 hx)).trans h.sub
      exact absurd ((List.singleton_sublist.2 hy).append (h3.cons_cons x)) (g.2 y x e)
   ·rw [if_neg hS]
    have h0 : R.count x = 0 := by
     have h2 := h.le x
     have h3 : ¬ R.count x = 1 := fun h4 => hS ((h.one x).2 h4)
     have h5 : ¬ R.count x = 2 := fun h4 => hD ((h.two x).2 h4)
     omega
    exact par_main r (x :: R) (x :: S) D (h.push h0)
theorem par_iff (W : List Int) : par W [] [] = true ↔ Cnt2 W ∧ NPat W := by
 rw [par_main W [] [] [] .start, List.append_nil]
 refine ⟨fun h => ⟨fun x hx => ?_, fun a b e s => ?_⟩, fun h => ⟨fun x hx => ?_, fun a b e s => ?_⟩⟩
 ·have := h.1 x (by simpa using hx); rwa [List.count_reverse] at this
 ·exact h.2 b a (Ne.symm e) (by simpa using s.reverse)
 ·rw [List.count_reverse]; exact h.1 x (by simpa using hx)
 ·exact h.2 b a (Ne.symm e) (by have := s.reverse; rw [List.reverse_reverse] at this; simpa using this)
def crl : List Int → List Int → Bool
 | _, [] => false
 | P, x :: r => (if x ∈ r then (r.take (r.idxOf x)).any fun y => decide (y ∈ P) || decide (y ∈ r.drop (r.idxOf x + 1)) else false) || crl (P ++ [x]) r
theorem crl_iff : ∀ (R P : List Int), crl P R = true ↔ ∃ Q x r, R = Q ++ x :: r ∧ x ∈ r ∧ ∃ y ∈ r.take (r.idxOf x), y ∈ P ++ Q ∨ y ∈ r.drop (r.idxOf x + 1)
 | [], P => by simp [crl]
 | x :: r, P => by
  unfold crl
  rw [Bool.or_eq_true, crl_iff r (P ++ [x])]
  constructor
  ·rintro (h | ⟨Q, z, s, rfl, h1, y, h2, h3⟩)
   ·by_cases hx : x ∈ r
    ·rw [if_pos hx, List.any_eq_true] at h
     obtain ⟨y, h1, h2⟩ := h
     exact ⟨[], x, r, rfl, hx, y, h1, by simpa using h2⟩
    ·rw [if_neg hx] at h; cases h
   ·exact ⟨x :: Q, z, s, rfl, h1, y, h2, by simpa [or_assoc] using h3⟩
  ·rintro ⟨Q, z, s, h0, h1, y, h2, h3⟩
   cases Q with
   | nil =>
    rw [List.nil_append] at h0
    injection h0 with e1 e2
    subst e1; subst e2
    refine .inl ?_
    rw [if_pos h1, List.any_eq_true]
    exact ⟨y, h2, by simpa using h3⟩
   | cons q Q =>
    rw [List.cons_append] at h0
    injection h0 with e1 e2
    subst e1
    exact .inr ⟨Q, z, s, e2, h1, y, h2, by simpa [or_assoc] using h3⟩
theorem idx_split {x : Int} : ∀ {r : List Int}, x ∈ r → r = r.take (r.idxOf x) ++ x :: r.drop (r.idxOf x + 1) ∧ x ∉ r.take (r.idxOf x)
 | [], h => by cases h
 | y :: r, h => by
  by_cases e : y = x
  ·subst e; simp
  ·have hx : x ∈ r := by simpa [Ne.symm e] using h
   obtain ⟨h1, h2⟩ := idx_split hx
   have hi : (y :: r).idxOf x = r.idxOf x + 1 := by rw [List.idxOf_cons, beq_eq_false_iff_ne.2 e]; rfl
   rw [hi]
   refine ⟨?_, ?_⟩
   ·simp only [List.take_succ_cons, List.cons_append, List.drop_succ_cons]
    rw [← h1]
   ·simp only [List.take_succ_cons, List.mem_cons, not_or]
    exact ⟨Ne.symm e, h2⟩
theorem half_le : ∀ (s W : List Int), s.Nodup → (∀ x ∈ s, W.count x = 2) → 2 * s.length ≤ W.length
 | [], _, _, _ => by simp
 | a :: s, W, hn, h => by
  have hn' := List.nodup_cons.1 hn
  have h1 := half_le s (W.filter (· != a)) hn'.2 (fun x hx => by
   rw [List.count_filter (by simpa using fun e : x = a => hn'.1 (e ▸ hx))]; exact h x (by simp [hx]))
  have h2 : W.length = W.count a + (W.filter (· != a)).length := by
   rw [← List.countP_eq_length_filter]
   have := List.length_eq_countP_add_countP (fun x => x == a) (l := W)
   rw [this]
   congr 1
   exact List.countP_congr (by simp)
  have h3 := h a (by simp)
  simp only [List.length_cons]; omega
theorem drop_rd (l : List Int) (i : Int) (h0 : 0 ≤ i) (h : i < l.length) : l.drop i.toNat = rd l i :: l.drop (i + 1).toNat := by
 rw [List.drop_eq_getElem_cons (by omega), show (i + 1).toNat = i.toNat + 1 by omega]
 congr 1
 have := rd_get l i.toNat (by omega)
 rw [show ((i.toNat : Nat) : Int) = i by omega] at this
 exact this.symm
theorem drop_ge (l : List Int) (i : Int) (h : ¬ i < l.length) : l.drop i.toNat = [] := List.drop_eq_nil_of_le (by omega)
theorem l1Has_l (l : List Int) (x : Int) (hn : l.length < 4611686018427387904) (d : Nat) : ∀ i : Int, 0 ≤ i → (l.length : Int) - i ≤ d → (∃ K, ∀ k, K ≤ k → spec_l1Has.l0 k x l l.length i = some (decide (x ∈ l.drop i.toNat))) := by
 have out : ∀ i : Int, ¬ i < (l.length : Int) → (∃ K, ∀ k, K ≤ k → spec_l1Has.l0 k x l l.length i = some (decide (x ∈ l.drop i.toNat))) := by
  intro i hi
  refine ev_rs 0 fun m _ => ?_
  simp (disch := omega) only [spec_l1Has.l0, if_neg]
  rw [drop_ge l i hi]; rfl
 induction d with
 | zero => intro i h0 hd; exact out i (by omega)
 | succ d ih =>
  intro i h0 hd
  by_cases hlt : i < (l.length : Int)
  ·obtain ⟨K, ih⟩ := ih (i + 1) (by omega) (by omega)
   refine ev_rs K fun m hm => ?_
   simp (disch := omega) only [spec_l1Has.l0, if_pos, w64]
   rw [drop_rd l i h0 hlt]
   by_cases he : rd l i = x
   ·rw [if_pos he]; simp [he]
   ·rw [if_neg he, ih m hm]; simp [Ne.symm he]
  ·exact out i hlt
theorem l1Has_any (l : List Int) (x : Int) (hn : l.length < 4611686018427387904) : (∃ K, ∀ k, K ≤ k → spec_l1Has.f k l x = some (decide (x ∈ l))) := l1Has_l l x hn l.length 0 (by omega) (by omega)
theorem l1Own_any (l : List Int) (hn : l.length < 17592186044416) : spec_l1Own.f l = some l := by
 unfold spec_l1Own.f
 rw [Option.bind_some, if_pos (by simpa using hn)]; rfl
theorem l1Same_l (a b : List Int) (hl : a.length = b.length) (hn : a.length < 4611686018427387904) (d : Nat) : ∀ i : Int, 0 ≤ i → (a.length : Int) - i ≤ d → (∃ K, ∀ k, K ≤ k → spec_l1Same.l0 k a b a.length i = some (decide (a.drop i.toNat = b.drop i.toNat))) := by
 have out : ∀ i : Int, ¬ i < (a.length : Int) → (∃ K, ∀ k, K ≤ k → spec_l1Same.l0 k a b a.length i = some (decide (a.drop i.toNat = b.drop i.toNat))) := by
  intro i hi
  refine ev_rs 0 fun m _ => ?_
  simp (disch := omega) only [spec_l1Same.l0, if_neg]
  rw [drop_ge a i hi, drop_ge b i (by omega)]; rfl
 induction d with
 | zero => intro i h0 hd; exact out i (by omega)
 | succ d ih =>
  intro i h0 hd
  by_cases hlt : i < (a.length : Int)
  ·obtain ⟨K, ih⟩ := ih (i + 1) (by omega) (by omega)
   refine ev_rs K fun m hm => ?_
   simp (disch := omega) only [spec_l1Same.l0, if_pos, w64]
   rw [drop_rd a i h0 hlt, drop_rd b i h0 (by omega)]
   by_cases he : rd a i = rd b i
   ·rw [if_pos he, ih m hm]; simp [he]
   ·rw [if_neg he]; simp [he]
  ·exact out i hlt
theorem l1Same_any (a b : List Int) (hn : a.length < 4611686018427387904) : (∃ K, ∀ k, K ≤ k → spec_l1Same.f k a b = some (decide (a = b))) := by
 by_cases hl : a.length = b.length
 ·obtain ⟨K, h⟩ := l1Same_l a b hl hn a.length 0 (by omega) (by omega)
  refine ⟨K, fun k hk => ?_⟩
  unfold spec_l1Same.f
  rw [if_pos (by omega), h k hk]; rfl
 ·refine ⟨0, fun k hk => ?_⟩
  unfold spec_l1Same.f
  rw [if_neg (by omega), decide_eq_false fun h => hl (by rw [h])]
theorem clone_any (l : List Int) (hn : l.length < 17592186044416) : slices_Clone_int_int.f l = some l := by
 unfold slices_Clone_int_int.f
 rw [Option.bind_some, if_pos (by simpa using hn)]; rfl
theorem seeOne_mem (s : List Int) (x y : Int) : y ∈ seeOne s x ↔ y ∈ s ∨ y = x := by
 unfold seeOne
 by_cases h : x ∈ s
 ·rw [if_pos h]; exact ⟨.inl, fun e => e.elim id fun e => e ▸ h⟩
 ·rw [if_neg h]; simp
theorem ofSeen_mem : ∀ (l s : List Int) (y : Int), y ∈ ofSeen s l ↔ y ∈ s ∨ y ∈ l
 | [], s, y => by simp [ofSeen]
 | x :: l, s, y => by
  unfold ofSeen
  rw [ofSeen_mem l (seeOne s x) y, seeOne_mem, List.mem_cons, or_assoc]
theorem ofSeen_pre : ∀ (l s : List Int), ∃ t, ofSeen s l = s ++ t
 | [], s => ⟨[], by simp [ofSeen]⟩
 | x :: l, s => by
  unfold ofSeen
  obtain ⟨t, h⟩ := ofSeen_pre l (seeOne s x)
  rw [h]
  unfold seeOne
  by_cases e : x ∈ s
  ·rw [if_pos e]; exact ⟨t, rfl⟩
  ·rw [if_neg e]; exact ⟨x :: t, by simp⟩
theorem ofSeen_append : ∀ (a s b : List Int), ofSeen s (a ++ b) = ofSeen (ofSeen s a) b
 | [], _, _ => rfl
 | x :: a, s, b => (ofSeen_append a (seeOne s x) b : ofSeen (seeOne s x) (a ++ b) = ofSeen (ofSeen (seeOne s x) a) b)
theorem ofSeen_nodup : ∀ (l s : List Int), s.Nodup → (ofSeen s l).Nodup
 | [], s, h => h
 | x :: l, s, h => by
  unfold ofSeen
  refine ofSeen_nodup l _ ?_
  unfold seeOne
  by_cases e : x ∈ s
  ·rw [if_pos e]; exact h
  ·rw [if_neg e, List.nodup_append]
   exact ⟨h, by simp, fun a ha b hb => by rw [List.mem_singleton] at hb; subst hb; exact fun e2 => e (e2 ▸ ha)⟩
theorem ofSeen_len : ∀ (l s : List Int), (ofSeen s l).length ≤ s.length + l.length
 | [], s => by simp [ofSeen]
 | x :: l, s => by
  unfold ofSeen
  have h := ofSeen_len l (seeOne s x)
  have h2 : (seeOne s x).length ≤ s.length + 1 := by
   unfold seeOne
   split <;> simp
  simp only [List.length_cons]; omega
def ixs (s l : List Int) : List Int := l.map fun x => ((s.idxOf x : Nat) : Int)
theorem idx_pre (s l : List Int) (x : Int) (h : x ∈ s) : (ofSeen s l).idxOf x = s.idxOf x := by
 obtain ⟨t, e⟩ := ofSeen_pre l s
 rw [e, List.idxOf_append, if_pos h]
theorem ofOut_eq : ∀ (l s : List Int), ofOut s l = ixs (ofSeen s l) l
 | [], _ => rfl
 | x :: l, s => by
  unfold ofOut ofSeen ixs
  rw [List.map_cons, ofOut_eq l (seeOne s x), idx_pre _ l x ((seeOne_mem s x x).2 (.inr rfl))]; rfl
def ren (u d : List Int) : List Int × List Int := (ixs (ofSeen [] (u ++ d)) u, ixs (ofSeen [] (u ++ d)) d)
theorem implRen_any (u d : List Int) (c : Int) (hu : wfB u = true) (hd : wfB d = true) (hul : u.length ≤ 1000) (hdl : d.length ≤ 1000) : impl_renumbered.f u d c = some ((ren u d).1, (ren u d).2, c) := by
 unfold impl_renumbered.f ren
 rw [if_pos ⟨hu, hd, hul, hdl⟩, ofOut_eq, ofOut_eq, ofSeen_append]
 congr 2
 refine List.map_congr_left fun x hx => ?_
 rw [idx_pre _ d x ((ofSeen_mem u [] x).2 (.inr hx))]
theorem ixs_len (s l : List Int) : (ixs s l).length = l.length := by unfold ixs; simp
theorem rd_idx (s : List Int) (x : Int) (h : x ∈ s) : rd s ((s.idxOf x : Nat) : Int) = x := by
 rw [rd_get s _ (List.idxOf_lt_length_of_mem h), List.getElem_idxOf]
theorem rd_idx_ne (s : List Int) (x : Int) (j : Nat) (h : j < s.idxOf x) (hx : x ∈ s) : rd s (j : Int) ≠ x := by
 have h2 := List.idxOf_lt_length_of_mem hx
 rw [rd_get s j (by omega)]
 intro e
 obtain ⟨h3, h4⟩ := idx_split hx
 refine h4 ?_
 have : s[j] ∈ s.take (s.idxOf x) := List.mem_take_iff_getElem.2 ⟨j, by omega, rfl⟩
 rwa [e] at this
theorem stNames_l1 (s l out : List Int) (x : Int) (i : Int) (hs : s.length < 4611686018427387904) (ho : out.length < 17592186044416) (hx : x ∈ s) (hi : i + 1 < 4611686018427387904) (hi0 : 0 ≤ i) (n : Int) (R : List Int)
  (h : (∃ K, ∀ k, K ≤ k → spec_stNames.l0 k s (out ++ [((s.idxOf x : Nat) : Int)]) l n (i + 1) = some (R))) (d : Nat) : ∀ j : Nat, j ≤ s.idxOf x → s.idxOf x - j ≤ d → (∃ K, ∀ k, K ≤ k → spec_stNames.l1 k s out x j l n i = some (R)) := by
 have hlt := List.idxOf_lt_length_of_mem hx
 obtain ⟨K, h⟩ := h
 have out_ : (∃ K, ∀ k, K ≤ k → spec_stNames.l1 k s out x ((s.idxOf x : Nat) : Int) l n i = some (R)) := by
  refine ev_rs K fun m hm => ?_
  have he := rd_idx s x hx
  simp (disch := omega) only [spec_stNames.l1, if_pos, w64]
  first | exact h m hm | (rw [if_pos he]; exact h m hm)
 induction d with
 | zero =>
  intro j h1 h2
  obtain rfl : j = s.idxOf x := by omega
  exact out_
 | succ d ih =>
  intro j h1 h2
  by_cases e : j = s.idxOf x
  ·subst e; exact out_
  ·obtain ⟨K2, ih⟩ := ih (j + 1) (by omega) (by omega)
   refine ev_rs K2 fun m hm => ?_
   have hn := rd_idx_ne s x j (by omega) hx
   simp (disch := omega) only [spec_stNames.l1, if_pos, w64]
   first | rw [if_neg hn] | skip
   exact ih m hm
theorem stNames_l0 (s l : List Int) (hs : s.length < 4611686018427387904) (hl : l.length < 1000000) (hm : ∀ x ∈ l, x ∈ s) (d : Nat) : ∀ (out : List Int) (i : Int), 0 ≤ i → (l.length : Int) - i ≤ d → out.length + d < 17592186044416 → (∃ K, ∀ k, K ≤ k → spec_stNames.l0 k s out l l.length i = some (out ++ ixs s (l.drop i.toNat))) := by
 have out_ : ∀ (out : List Int) (i : Int), ¬ i < (l.length : Int) → (∃ K, ∀ k, K ≤ k → spec_stNames.l0 k s out l l.length i = some (out ++ ixs s (l.drop i.toNat))) := by
  intro out i hi
  refine ev_rs 0 fun m _ => ?_
  simp (disch := omega) only [spec_stNames.l0, if_neg]
  rw [drop_ge l i hi]; simp [ixs]
 induction d with
 | zero => intro out i h0 hd _; exact out_ out i (by omega)
 | succ d ih =>
  intro out i h0 hd hb
  by_cases hlt : i < (l.length : Int)
  ·have hx := hm _ (rd_mem l i h0 hlt)
   obtain ⟨K, h⟩ := stNames_l1 s l out (rd l i) i hs (by omega) hx (by omega) h0 l.length _ (ih (out ++ [((s.idxOf (rd l i) : Nat) : Int)]) (i + 1) (by omega) (by omega) (by simp; omega)) (s.idxOf (rd l i)) 0 (by omega) (by omega)
   refine ev_rs K fun m hm => ?_
   simp (disch := omega) only [spec_stNames.l0, if_pos]
   rw [show (0 : Int) = ((0 : Nat) : Int) from rfl, h m hm, drop_rd l i h0 hlt]
   simp [ixs]
  ·exact out_ out i hlt
theorem stNames_any (l s : List Int) (hs : s.length < 4611686018427387904) (hl : l.length < 1000000) (hm : ∀ x ∈ l, x ∈ s) : (∃ K, ∀ k, K ≤ k → spec_stNames.f k l s = some (ixs s l)) := by
 obtain ⟨K, h⟩ := stNames_l0 s l hs hl hm l.length [] 0 (by omega) (by omega) (by simp; omega)
 refine ⟨K, fun k hk => ?_⟩
 unfold spec_stNames.f
 rw [h k hk]; simp
theorem stRename_l0 (u d y : List Int) (hu : u.length < 1000000) (hd : d.length < 1000000) (hy : y.length < 4000000) (e : Nat) : ∀ (s : List Int) (i : Int), 0 ≤ i → (y.length : Int) - i ≤ e → s.length + e < 17592186044416 →
  (∀ x ∈ u, x ∈ ofSeen s (y.drop i.toNat)) → (∀ x ∈ d, x ∈ ofSeen s (y.drop i.toNat)) → (∃ K, ∀ k, K ≤ k → spec_stRename.l0 k u d s y y.length i = some ((ixs (ofSeen s (y.drop i.toNat)) u, ixs (ofSeen s (y.drop i.toNat)) d))) := by
 have out_ : ∀ (s : List Int) (i : Int), ¬ i < (y.length : Int) → s.length < 17592186044416 → (∀ x ∈ u, x ∈ ofSeen s (y.drop i.toNat)) → (∀ x ∈ d, x ∈ ofSeen s (y.drop i.toNat)) → (∃ K, ∀ k, K ≤ k → spec_stRename.l0 k u d s y y.length i = some ((ixs (ofSeen s (y.drop i.toNat)) u, ixs (ofSeen s (y.drop i.toNat)) d))) := by
  intro s i hi hsl h1 h2
  rw [drop_ge y i hi] at h1 h2 ⊢
  obtain ⟨K1, h1⟩ := stNames_any u s (by omega) hu h1
  obtain ⟨K2, h2⟩ := stNames_any d s (by omega) hd h2
  refine ev_rs (K1 + K2) fun m hm => ?_
  simp (disch := omega) only [spec_stRename.l0, if_neg, h1, h2, Option.bind_some]
  rfl
 induction e with
 | zero => intro s i h0 he hb h1 h2; exact out_ s i (by omega) (by omega) h1 h2
 | succ e ih =>
  intro s i h0 he hb h1 h2
  by_cases hlt : i < (y.length : Int)
  ·obtain ⟨K1, hh⟩ := l1Has_any s (rd y i) (by omega)
   rw [drop_rd y i h0 hlt] at h1 h2 ⊢
   have es : ofSeen s (rd y i :: y.drop (i + 1).toNat) = ofSeen (seeOne s (rd y i)) (y.drop (i + 1).toNat) := rfl
   rw [es] at h1 h2 ⊢
   by_cases hx : rd y i ∈ s
   ·have e1 : seeOne s (rd y i) = s := by unfold seeOne; rw [if_pos hx]
    rw [e1] at h1 h2 ⊢
    obtain ⟨K, ih⟩ := ih s (i + 1) (by omega) (by omega) (by omega) h1 h2
    refine ev_rs (K + K1) fun m hm => ?_
    simp (disch := omega) only [spec_stRename.l0, if_pos, w64, hh, Option.bind_some]
    rw [decide_eq_true hx, if_pos rfl]
    exact ih m (by omega)
   ·have e1 : seeOne s (rd y i) = s ++ [rd y i] := by unfold seeOne; rw [if_neg hx]
    rw [e1] at h1 h2 ⊢
    obtain ⟨K, ih⟩ := ih (s ++ [rd y i]) (i + 1) (by omega) (by omega) (by simp; omega) h1 h2
    refine ev_rs (K + K1) fun m hm => ?_
    simp (disch := omega) only [spec_stRename.l0, if_pos, w64, hh, Option.bind_some]
    rw [decide_eq_false hx, if_neg (by decide)]
    exact ih m (by omega)
  ·exact out_ s i hlt (by omega) h1 h2
theorem stRename_any (u d : List Int) (hu : u.length < 1000000) (hd : d.length < 1000000) : (∃ K, ∀ k, K ≤ k → spec_stRename.f k u d = some (ren u d)) := by
 obtain ⟨K, h⟩ := stRename_l0 u d (u ++ d) hu hd (by simp; omega) (u.length + d.length) [] 0 (by omega) (by simp) (by simp; omega)
  (fun x hx => (ofSeen_mem _ _ _).2 (.inr (by simp [hx]))) (fun x hx => (ofSeen_mem _ _ _).2 (.inr (by simp [hx])))
 refine ⟨K, fun k hk => ?_⟩
 unfold spec_stRename.f
 rw [l1Own_any u (by omega), Option.bind_some, if_pos (by omega), Option.bind_some, h k hk]; rfl
def roundW (u d : List Int) : List Int := u ++ d.reverse
noncomputable def goodB (u d : List Int) (c : Int) : Bool := tf (u.length ≤ 6 ∧ d.length ≤ 6 ∧ (0 ≤ c ∧ c ≤ 6) ∧ (∀ j : Int, 0 ≤ j → j < u.length → 0 ≤ rd u j ∧ rd u j ≤ 6) ∧ (∀ j : Int, 0 ≤ j → j < d.length → 0 ≤ rd d j ∧ rd d j ≤ 6) ∧ (ren u d).1 = u ∧ (ren u d).2 = d ∧ par (roundW u d) [] [] = true)
theorem around_l (u d : List Int) (c : Int) (hd : d.length < 1000000) (e : Nat) : ∀ (x : List Int) (j : Int), j < d.length → j + 1 = (e : Int) → x.length + e < 17592186044416 → (∃ K, ∀ k, K ≤ k → spec_stAround.l0 k x j u d c = some (x ++ (d.take e).reverse)) := by
 induction e with
 | zero =>
  intro x j h1 h2 h3
  refine ev_rs 0 fun m _ => ?_
  simp (disch := omega) only [spec_stAround.l0, if_neg]
  simp
 | succ e ih =>
  intro x j h1 h2 h3
  obtain ⟨K, h⟩ := ih (x ++ [rd d j]) (j - 1) (by omega) (by omega) (by simp; omega)
  refine ev_rs K fun m hm => ?_
  simp (disch := omega) only [spec_stAround.l0, if_pos, w64]
  rw [h m hm]
  have h4 : rd d j = d[e] := by
   have := rd_get d e (by omega)
   rw [← this]; congr 1; omega
  rw [List.take_succ_eq_append_getElem (by omega), h4, List.reverse_append, List.append_assoc]; rfl
theorem around_any (u d : List Int) (c : Int) (hu : u.length < 1000000) (hd : d.length < 1000000) : (∃ K, ∀ k, K ≤ k → spec_stAround.f k u d c = some (roundW u d)) := by
 obtain ⟨K, h⟩ := around_l u d c hd d.length u ((d.length : Int) - 1) (by omega) (by omega) (by omega)
 refine ⟨K, fun k hk => ?_⟩
 unfold spec_stAround.f
 rw [l1Own_any u (by omega), Option.bind_some, w64 (by omega) (by omega), h k hk, List.take_length]; rfl
theorem stGood_l0 (W : List Int) (hW : W.length < 1000000) (e : Nat) : ∀ (S D : List Int) (i : Int), 0 ≤ i → (W.length : Int) - i ≤ e → S.length + e < 4000000 → D.length + e < 4000000 → (∃ K, ∀ k, K ≤ k → spec_stGood.l0 k S.reverse D.reverse W W.length i = some (par (W.drop i.toNat) S D)) := by
 have out_ : ∀ (S D : List Int) (i : Int), ¬ i < (W.length : Int) → (∃ K, ∀ k, K ≤ k → spec_stGood.l0 k S.reverse D.reverse W W.length i = some (par (W.drop i.toNat) S D)) := by
  intro S D i hi
  refine ev_rs 0 fun m _ => ?_
  simp (disch := omega) only [spec_stGood.l0, if_neg]
  rw [drop_ge W i hi]
  cases S with
  | nil => rfl
  | cons y S => simp [par]; omega
 induction e with
 | zero => intro S D i h0 he _ _; exact out_ S D i (by omega)
 | succ e ih =>
  intro S D i h0 he hS hD
  by_cases hlt : i < (W.length : Int)
  ·obtain ⟨K1, hd⟩ := l1Has_any D.reverse (rd W i) (by simp; omega)
   obtain ⟨K2, ho⟩ := l1Has_any S.reverse (rd W i) (by simp; omega)
   rw [drop_rd W i h0 hlt]
   unfold par
   by_cases hxD : rd W i ∈ D
   ·rw [if_pos hxD]
    refine ev_rs K1 fun m hm => ?_
    simp (disch := omega) only [spec_stGood.l0, if_pos, hd, Option.bind_some]
    rw [decide_eq_true (by simpa using hxD), if_pos rfl]
   ·rw [if_neg hxD]
    have hd2 : decide (rd W i ∈ D.reverse) = false := decide_eq_false (by simpa using hxD)
    by_cases hxS : rd W i ∈ S
    ·rw [if_pos hxS]
     have ho2 : decide (rd W i ∈ S.reverse) = true := decide_eq_true (by simpa using hxS)
     cases S with
     | nil => cases hxS
     | cons y S' =>
      have hlen : ((y :: S').reverse.length : Int) = (S'.length : Int) + 1 := by simp
      have hrd : rd (y :: S').reverse (S'.length : Int) = y := by
       rw [rd_get _ S'.length (by simp)]; simp
      have htk : (y :: S').reverse.take ((S'.length : Int)).toNat = S'.reverse := by simp
      simp only
      simp only [List.length_cons] at hS
      by_cases e : y = rd W i
      ·rw [if_pos e]
       obtain ⟨K, ih⟩ := ih S' (rd W i :: D) (i + 1) (by omega) (by omega) (by omega) (by simp; omega)
       rw [List.reverse_cons] at ih
       refine ev_rs (K + K1 + K2) fun m hm => ?_
       simp (disch := omega) only [spec_stGood.l0, if_pos, hd, ho, Option.bind_some]
       rw [hd2, if_neg (by decide)]
       first | rw [ho2, if_pos rfl] | skip
       rw [hlen, show (S'.length : Int) + 1 - 1 = S'.length by omega, w64 (by omega) (by omega), if_pos (by omega), if_pos (by omega), hrd, if_pos e, if_pos (by simp; omega), htk, w64 (by omega) (by omega)]
       exact ih m (by omega)
      ·rw [if_neg e]
       refine ev_rs (K1 + K2) fun m hm => ?_
       simp (disch := omega) only [spec_stGood.l0, if_pos, hd, ho, Option.bind_some]
       rw [hd2, if_neg (by decide)]
       first | rw [ho2, if_pos rfl] | skip
       rw [hlen, show (S'.length : Int) + 1 - 1 = S'.length by omega, w64 (by omega) (by omega), if_pos (by omega), if_pos (by omega), hrd, if_neg e]
    ·rw [if_neg hxS]
     have ho2 : decide (rd W i ∈ S.reverse) = false := decide_eq_false (by simpa using hxS)
     obtain ⟨K, ih⟩ := ih (rd W i :: S) D (i + 1) (by omega) (by omega) (by simp; omega) (by omega)
     rw [List.reverse_cons] at ih
     refine ev_rs (K + K1 + K2) fun m hm => ?_
     simp (disch := omega) only [spec_stGood.l0, if_pos, hd, ho, Option.bind_some]
     rw [hd2, if_neg (by decide), ho2, if_neg (by decide), if_pos (by simp; omega), w64 (by omega) (by omega)]
     exact ih m (by omega)
  ·exact out_ S D i hlt
theorem stGood_any (u d : List Int) (c : Int) (hu : u.length < 4611686018427387904) (hd : d.length < 4611686018427387904) : (∃ K, ∀ k, K ≤ k → spec_stGood.f k u d c = some (goodB u d c)) := by
 unfold goodB
 by_cases h1 : (u.length : Int) > 6
 ·refine ev_rs 0 fun m _ => ?_
  unfold spec_stGood.f
  rw [if_pos h1, tf_f fun h => by omega]
  simp [spec_stGood.j0]
 ·by_cases h2 : (d.length : Int) > 6
  ·refine ev_rs 0 fun m _ => ?_
   unfold spec_stGood.f
   rw [if_neg h1, if_pos h2, tf_f fun h => by omega]
   simp [spec_stGood.j0]
  ·by_cases h3 : 0 ≤ c ∧ c ≤ 6
   ·obtain ⟨Ku, hau⟩ := l1All_any u hu 0 6
    obtain ⟨Kd, had⟩ := l1All_any d hd 0 6
    obtain ⟨Kr, hr⟩ := stRename_any u d (by omega) (by omega)
    obtain ⟨Ks, hs⟩ := l1Same_any (ren u d).1 u (by unfold ren; rw [ixs_len]; omega)
    obtain ⟨Kt, ht⟩ := l1Same_any (ren u d).2 d (by unfold ren; rw [ixs_len]; omega)
    obtain ⟨Ka, ha⟩ := around_any u d c (by omega) (by omega)
    have hwl : (roundW u d).length ≤ 12 := by unfold roundW; simp; omega
    obtain ⟨Kp, hp⟩ := stGood_l0 (roundW u d) (by omega) (roundW u d).length [] [] 0 (by omega) (by omega) (by simp; omega) (by simp; omega)
    refine ⟨Ku + Kd + Kr + Ks + Kt + Ka + Kp + 4, fun k hk => ?_⟩
    obtain ⟨m, rfl⟩ : ∃ m, k = m + 4 := ⟨k - 4, by omega⟩
    unfold spec_stGood.f
    rw [if_neg h1, if_neg h2, l1In_any, Option.bind_some, decide_eq_true h3]
    by_cases g1 : ∀ j : Int, 0 ≤ j → j < (u.length : Int) → 0 ≤ rd u j ∧ rd u j ≤ 6
    ·by_cases g2 : ∀ j : Int, 0 ≤ j → j < (d.length : Int) → 0 ≤ rd d j ∧ rd d j ≤ 6
     ·by_cases g3 : (ren u d).1 = u
      ·by_cases g4 : (ren u d).2 = d
       ·simp (disch := omega) only [spec_stGood.j0, spec_stGood.j1, spec_stGood.j2, Bool.not_true, Bool.false_eq_true, if_false, hau, had, hr, hs, ht, ha, Option.bind_some, tf_t g1, tf_t g2, decide_eq_true g3, decide_eq_true g4, if_true]
        rw [show ([] : List Int) = ([] : List Int).reverse from rfl, hp _ (by omega)]
        congr 1
        rw [show (0 : Int).toNat = 0 from rfl, List.drop_zero, List.reverse_nil]
        cases hq : par (roundW u d) [] []
        ·rw [tf_f fun h => by have := h.2.2.2.2.2.2.2; cases this]
        ·rw [tf_t ⟨by omega, by omega, h3, g1, g2, g3, g4, rfl⟩]
       ·simp (disch := omega) only [spec_stGood.j0, spec_stGood.j1, spec_stGood.j2, Bool.not_true, Bool.not_false, Bool.false_eq_true, if_false, hau, had, hr, hs, ht, ha, Option.bind_some, tf_t g1, tf_t g2, decide_eq_true g3, decide_eq_false g4, if_true]
        rw [tf_f fun h => g4 h.2.2.2.2.2.2.1]
      ·simp (disch := omega) only [spec_stGood.j0, spec_stGood.j1, spec_stGood.j2, Bool.not_true, Bool.not_false, Bool.false_eq_true, if_false, hau, had, hr, hs, ht, ha, Option.bind_some, tf_t g1, tf_t g2, decide_eq_false g3, if_true]
       rw [tf_f fun h => g3 h.2.2.2.2.2.1]
     ·simp (disch := omega) only [spec_stGood.j0, spec_stGood.j1, spec_stGood.j2, Bool.not_true, Bool.not_false, Bool.false_eq_true, if_false, hau, had, Option.bind_some, tf_t g1, tf_f g2, if_true]
      rw [tf_f fun h => g2 h.2.2.2.2.1]
    ·simp (disch := omega) only [spec_stGood.j0, spec_stGood.j1, spec_stGood.j2, Bool.not_true, Bool.not_false, Bool.false_eq_true, if_false, hau, Option.bind_some, tf_f g1, if_true]
     rw [tf_f fun h => g1 h.2.2.2.1]
   ·refine ev_rs 0 fun m _ => ?_
    unfold spec_stGood.f
    rw [if_neg h1, if_neg h2, l1In_any, Option.bind_some, decide_eq_false h3, tf_f fun h => h3 h.2.2.1]
    simp [spec_stGood.j0]
theorem count_inj {f : Int → Int} {x : Int} : ∀ W : List Int, (∀ a ∈ W, f a = f x → a = x) → (W.map f).count (f x) = W.count x
 | [], _ => rfl
 | a :: W, h => by
  have ih := count_inj W (fun b hb => h b (List.mem_cons_of_mem _ hb))
  by_cases e : a = x
  ·subst e; rw [List.map_cons, List.count_cons_self, List.count_cons_self, ih]
  ·have e2 : f a ≠ f x := fun q => e (h a (List.mem_cons_self ..) q)
   rw [List.map_cons, List.count_cons_of_ne e2, List.count_cons_of_ne e, ih]
theorem Cnt2.map {W : List Int} (h : Cnt2 W) {f : Int → Int} (inj : ∀ a ∈ W, ∀ b ∈ W, f a = f b → a = b) : Cnt2 (W.map f) := by
 intro y hy
 obtain ⟨x, hx, rfl⟩ := List.mem_map.1 hy
 rw [count_inj W (fun a ha e => inj a ha x hx e)]; exact h x hx
theorem four {l : List Int} {f : Int → Int} {a b c d : Int} (e : [a, b, c, d] = l.map f) : ∃ p q r s, l = [p, q, r, s] ∧ f p = a ∧ f q = b ∧ f r = c ∧ f s = d := by
 rcases l with _ | ⟨p, _ | ⟨q, _ | ⟨r, _ | ⟨s, _ | ⟨t, l⟩⟩⟩⟩⟩ <;> simp at e
 obtain ⟨e1, e2, e3, e4⟩ := e
 exact ⟨p, q, r, s, rfl, e1.symm, e2.symm, e3.symm, e4.symm⟩
theorem NPat.map {W : List Int} (h : NPat W) {f : Int → Int} (inj : ∀ a ∈ W, ∀ b ∈ W, f a = f b → a = b) : NPat (W.map f) := by
 intro a b e hs
 obtain ⟨l, hl, el⟩ := List.sublist_map_iff.1 hs
 obtain ⟨p, q, r, s, rfl, e1, e2, e3, e4⟩ := four el
 have m : ∀ z ∈ [p, q, r, s], z ∈ W := fun z hz => hl.subset hz
 obtain rfl := inj p (m p (by simp)) r (m r (by simp)) (e1.trans e3.symm)
 obtain rfl := inj q (m q (by simp)) s (m s (by simp)) (e2.trans e4.symm)
 exact h p q (fun c => e (by rw [← e1, ← e2, c])) hl
theorem NPat.sub {W V : List Int} (h : NPat W) (s : List.Sublist V W) : NPat V := fun a b e hs => h a b e (hs.trans s)
theorem sub_skip {x : Int} {l : List Int} : ∀ (A : List Int) {R : List Int}, x ∉ A → List.Sublist (x :: l) (A ++ R) → List.Sublist (x :: l) R
 | [], _, _, h => h
 | c :: A, _, hx, h => sub_skip A (fun m => hx (List.mem_cons_of_mem _ m)) (sub_ne h (fun e => hx (e ▸ List.mem_cons_self ..)))
theorem NPat.two {A B : List Int} {f : Int} (h : NPat (A ++ B)) (ha : f ∉ A) (hb : f ∉ B) : NPat (A ++ f :: f :: B) := by
 intro a b e hs
 by_cases ea : a = f
 ·subst ea
  exact hb (sub_mem (sub_ne (sub_tl (sub_skip A ha hs)) (Ne.symm e)) (by simp))
 ·by_cases eb : b = f
  ·subst eb
   exact hb (sub_mem (sub_ne (sub_tl (sub_skip A ha ((List.sublist_cons_self a _).trans hs))) ea) (by simp))
  ·refine h a b e ?_
   have h1 := hs.filter (fun z => decide (z ≠ f))
   have ea' : ¬ f = a := fun q => ea q.symm
   have eb' : ¬ f = b := fun q => eb q.symm
   have fa : A.filter (fun z => decide (z ≠ f)) = A := List.filter_eq_self.2 (fun z hz => decide_eq_true fun q => ha (q ▸ hz))
   have fb : B.filter (fun z => decide (z ≠ f)) = B := List.filter_eq_self.2 (fun z hz => decide_eq_true fun q => hb (q ▸ hz))
   have ff : (f :: f :: B).filter (fun z => decide (z ≠ f)) = B := by rw [List.filter_cons_of_neg (by simp), List.filter_cons_of_neg (by simp), fb]
   have f4 : [a, b, a, b].filter (fun z => decide (z ≠ f)) = [a, b, a, b] := List.filter_eq_self.2 (fun z hz => decide_eq_true fun q => by subst q; simp [ea', eb'] at hz)
   rw [List.filter_append, fa, ff, f4] at h1
   exact h1
theorem Cnt2.two {A B : List Int} {f : Int} (h : Cnt2 (A ++ B)) (ha : f ∉ A) (hb : f ∉ B) : Cnt2 (A ++ f :: f :: B) := by
 intro x hx
 by_cases e : x = f
 ·subst e
  rw [List.count_append, List.count_cons_self, List.count_cons_self, List.count_eq_zero.2 ha, List.count_eq_zero.2 hb]
 ·have := h x (by simp [e] at hx ⊢; exact hx)
  rw [List.count_append, List.count_cons_of_ne (Ne.symm e), List.count_cons_of_ne (Ne.symm e), ← List.count_append]; exact this
theorem splits4 {p q r s : Int} {l1 l2 : List Int} (e : [p, q, r, s] = l1 ++ l2) : (l1 = [] ∧ l2 = [p, q, r, s]) ∨ (l1 = [p] ∧ l2 = [q, r, s]) ∨ (l1 = [p, q] ∧ l2 = [r, s]) ∨ (l1 = [p, q, r] ∧ l2 = [s]) ∨ (l1 = [p, q, r, s] ∧ l2 = []) := by
 rcases l1 with _ | ⟨a1, _ | ⟨a2, _ | ⟨a3, _ | ⟨a4, _ | ⟨a5, t⟩⟩⟩⟩⟩ <;> simp at e <;> simp_all
def joinL (x y : Int) (l : List Int) : List Int := l.map fun v => if v = y then x else v
theorem count_join {x y : Int} (z : Int) (e : x ≠ y) : ∀ L : List Int, z ∈ joinL x y L → (joinL x y L).count z = if z = x then L.count x + L.count y else L.count z := by
 have hy : ∀ L : List Int, y ∉ joinL x y L := by
  intro L m
  obtain ⟨v, _, hv⟩ := List.mem_map.1 m
  by_cases q : v = y
  ·rw [if_pos q] at hv; exact e hv
  ·rw [if_neg q] at hv; exact q hv
 intro L hz
 have zy : z ≠ y := fun q => hy L (q ▸ hz)
 clear hz
 induction L with
 | nil => simp [joinL]
 | cons v L ih =>
  unfold joinL at ih ⊢
  rw [List.map_cons]
  by_cases q : v = y
  ·subst q
   rw [if_pos rfl]
   by_cases zx : z = x
   ·subst zx
    rw [List.count_cons_self, ih, if_pos rfl, if_pos rfl, List.count_cons_of_ne (Ne.symm e), List.count_cons_self]; omega
   ·rw [List.count_cons_of_ne (Ne.symm zx), ih, if_neg zx, if_neg zx, List.count_cons_of_ne (Ne.symm zy)]
  ·rw [if_neg q]
   by_cases vz : v = z
   ·subst vz
    rw [List.count_cons_self, ih]
    by_cases zx : v = x
    ·subst zx
     rw [if_pos rfl, if_pos rfl, List.count_cons_self, List.count_cons_of_ne zy]; omega
    ·rw [if_neg zx, if_neg zx, List.count_cons_self]
   ·rw [List.count_cons_of_ne vz, ih]
    by_cases zx : z = x
    ·subst zx
     rw [if_pos rfl, if_pos rfl, List.count_cons_of_ne vz, List.count_cons_of_ne q]
    ·rw [if_neg zx, if_neg zx, List.count_cons_of_ne vz]
theorem one_left {A B : List Int} {x y : Int} (e : x ≠ y) (h : Cnt2 (A ++ x :: y :: B)) : (A ++ B).count x = 1 ∧ (A ++ B).count y = 1 := by
 have h1 := h x (by simp)
 have h2 := h y (by simp)
 rw [List.count_append, List.count_cons_self, List.count_cons_of_ne (Ne.symm e)] at h1
 rw [List.count_append, List.count_cons_of_ne e, List.count_cons_self] at h2
 rw [List.count_append, List.count_append]; omega
theorem Cnt2.join {A B : List Int} {x y : Int} (e : x ≠ y) (h : Cnt2 (A ++ x :: y :: B)) : Cnt2 (joinL x y (A ++ B)) := by
 obtain ⟨h1, h2⟩ := one_left e h
 intro z hz
 rw [count_join z e _ hz]
 by_cases zx : z = x
 ·rw [if_pos zx]; omega
 ·rw [if_neg zx]
  obtain ⟨v, hv, hvz⟩ := List.mem_map.1 hz
  by_cases q : v = y
  ·rw [if_pos q] at hvz; exact absurd hvz.symm zx
  ·rw [if_neg q] at hvz; subst hvz
   have := h v (by simp at hv ⊢; exact hv.elim .inl fun m => .inr (.inr (.inr m)))
   rwa [List.count_append, List.count_cons_of_ne (Ne.symm zx), List.count_cons_of_ne (Ne.symm q), ← List.count_append] at this
theorem NPat.join {A B : List Int} {x y : Int} (e : x ≠ y) (hc : Cnt2 (A ++ x :: y :: B)) (h : NPat (A ++ x :: y :: B)) : NPat (joinL x y (A ++ B)) := by
 obtain ⟨n1, n2⟩ := one_left e hc
 intro a b hab hs
 obtain ⟨l, hl, el⟩ := List.sublist_map_iff.1 hs
 obtain ⟨p, q, r, s, rfl, e1, e2, e3, e4⟩ := four el
 have c1 := hl.count_le x
 have c2 := hl.count_le y
 rw [n1] at c1
 rw [n2] at c2
 have ins : ∀ l1 l2, [p, q, r, s] = l1 ++ l2 → List.Sublist l1 A → List.Sublist l2 B → NPat (l1 ++ x :: y :: l2) := fun l1 l2 _ s1 s2 => h.sub (s1.append ((s2.cons_cons y).cons_cons x))
 obtain ⟨l1, l2, es, s1, s2⟩ := List.sublist_append_iff.1 hl
 have hN := ins l1 l2 es s1 s2
 have sp := splits4 es
 clear ins hl hs el h hc n1 n2 s1 s2 es
 have val : ∀ v w : Int, (if v = y then x else v) = w → (v = y ∧ w = x) ∨ (v ≠ y ∧ v = w) := by
  intro v w hv
  by_cases k : v = y
  ·rw [if_pos k] at hv; exact .inl ⟨k, hv.symm⟩
  ·rw [if_neg k] at hv; exact .inr ⟨k, hv⟩
 have far : ∀ z : Int, z ≠ x → z ≠ y → True := fun _ _ _ => trivial
 rcases val p a e1 with ⟨rfl, rfl⟩ | ⟨pn, rfl⟩ <;> rcases val q b e2 with ⟨rfl, rfl⟩ | ⟨qn, rfl⟩ <;> rcases val r _ e3 with ⟨rfl, k3⟩ | ⟨rn, k3⟩ <;> rcases val s _ e4 with ⟨rfl, k4⟩ | ⟨sn, k4⟩ <;>
  first
   | exact absurd rfl hab
   | exact absurd k3 hab
   | exact absurd k4 hab
   | exact absurd k3.symm hab
   | exact absurd k4.symm hab
   | (first | subst k3 | skip) <;> (first | subst k4 | skip) <;> (first | (exfalso; simp [List.count_cons] at c2 <;> omega) | (exfalso; simp [List.count_cons] at c1 <;> omega) | (rcases sp with ⟨rfl, rfl⟩ | ⟨rfl, rfl⟩ | ⟨rfl, rfl⟩ | ⟨rfl, rfl⟩ | ⟨rfl, rfl⟩ <;> simp only [List.nil_append, List.cons_append] at hN <;> first | (refine hN a b ?_ ?_; (first | assumption | (apply Ne.symm; assumption)); (repeat (first | exact List.nil_sublist _ | apply List.Sublist.cons_cons | apply List.Sublist.cons)); done) | (refine hN a p ?_ ?_; (first | assumption | (apply Ne.symm; assumption)); (repeat (first | exact List.nil_sublist _ | apply List.Sublist.cons_cons | apply List.Sublist.cons)); done) | (refine hN a q ?_ ?_; (first | assumption | (apply Ne.symm; assumption)); (repeat (first | exact List.nil_sublist _ | apply List.Sublist.cons_cons | apply List.Sublist.cons)); done) | (refine hN a r ?_ ?_; (first | assumption | (apply Ne.symm; assumption)); (repeat (first | exact List.nil_sublist _ | apply List.Sublist.cons_cons | apply List.Sublist.cons)); done) | (refine hN a s ?_ ?_; (first | assumption | (apply Ne.symm; assumption)); (repeat (first | exact List.nil_sublist _ | apply List.Sublist.cons_cons | apply List.Sublist.cons)); done) | (refine hN a x ?_ ?_; (first | assumption | (apply Ne.symm; assumption)); (repeat (first | exact List.nil_sublist _ | apply List.Sublist.cons_cons | apply List.Sublist.cons)); done) | (refine hN a y ?_ ?_; (first | assumption | (apply Ne.symm; assumption)); (repeat (first | exact List.nil_sublist _ | apply List.Sublist.cons_cons | apply List.Sublist.cons)); done) | (refine hN b a ?_ ?_; (first | assumption | (apply Ne.symm; assumption)); (repeat (first | exact List.nil_sublist _ | apply List.Sublist.cons_cons | apply List.Sublist.cons)); done) | (refine hN b p ?_ ?_; (first | assumption | (apply Ne.symm; assumption)); (repeat (first | exact List.nil_sublist _ | apply List.Sublist.cons_cons | apply List.Sublist.cons)); done) | (refine hN b q ?_ ?_; (first | assumption | (apply Ne.symm; assumption)); (repeat (first | exact List.nil_sublist _ | apply List.Sublist.cons_cons | apply List.Sublist.cons)); done) | (refine hN b r ?_ ?_; (first | assumption | (apply Ne.symm; assumption)); (repeat (first | exact List.nil_sublist _ | apply List.Sublist.cons_cons | apply List.Sublist.cons)); done) | (refine hN b s ?_ ?_; (first | assumption | (apply Ne.symm; assumption)); (repeat (first | exact List.nil_sublist _ | apply List.Sublist.cons_cons | apply List.Sublist.cons)); done) | (refine hN b x ?_ ?_; (first | assumption | (apply Ne.symm; assumption)); (repeat (first | exact List.nil_sublist _ | apply List.Sublist.cons_cons | apply List.Sublist.cons)); done) | (refine hN b y ?_ ?_; (first | assumption | (apply Ne.symm; assumption)); (repeat (first | exact List.nil_sublist _ | apply List.Sublist.cons_cons | apply List.Sublist.cons)); done) | (refine hN p a ?_ ?_; (first | assumption | (apply Ne.symm; assumption)); (repeat (first | exact List.nil_sublist _ | apply List.Sublist.cons_cons | apply List.Sublist.cons)); done) | (refine hN p b ?_ ?_; (first | assumption | (apply Ne.symm; assumption)); (repeat (first | exact List.nil_sublist _ | apply List.Sublist.cons_cons | apply List.Sublist.cons)); done) | (refine hN p q ?_ ?_; (first | assumption | (apply Ne.symm; assumption)); (repeat (first | exact List.nil_sublist _ | apply List.Sublist.cons_cons | apply List.Sublist.cons)); done) | (refine hN p r ?_ ?_; (first | assumption | (apply Ne.symm; assumption)); (repeat (first | exact List.nil_sublist _ | apply List.Sublist.cons_cons | apply List.Sublist.cons)); done) | (refine hN p s ?_ ?_; (first | assumption | (apply Ne.symm; assumption)); (repeat (first | exact List.nil_sublist _ | apply List.Sublist.cons_cons | apply List.Sublist.cons)); done) | (refine hN p x ?_ ?_; (first | assumption | (apply Ne.symm; assumption)); (repeat (first | exact List.nil_sublist _ | apply List.Sublist.cons_cons | apply List.Sublist.cons)); done) | (refine hN p y ?_ ?_; (first | assumption | (apply Ne.symm; assumption)); (repeat (first | exact List.nil_sublist _ | apply List.Sublist.cons_cons | apply List.Sublist.cons)); done) | (refine hN q a ?_ ?_; (first | assumption | (apply Ne.symm; assumption)); (repeat (first | exact List.nil_sublist _ | apply List.Sublist.cons_cons | apply List.Sublist.cons)); done) | (refine hN q b ?_ ?_; (first | assumption | (apply Ne.symm; assumption)); (repeat (first | exact List.nil_sublist _ | apply List.Sublist.cons_cons | apply List.Sublist.cons)); done) | (refine hN q p ?_ ?_; (first | assumption | (apply Ne.symm; assumption)); (repeat (first | exact List.nil_sublist _ | apply List.Sublist.cons_cons | apply List.Sublist.cons)); done) | (refine hN q r ?_ ?_; (first | assumption | (apply Ne.symm; assumption)); (repeat (first | exact List.nil_sublist _ | apply List.Sublist.cons_cons | apply List.Sublist.cons)); done) | (refine hN q s ?_ ?_; (first | assumption | (apply Ne.symm; assumption)); (repeat (first | exact List.nil_sublist _ | apply List.Sublist.cons_cons | apply List.Sublist.cons)); done) | (refine hN q x ?_ ?_; (first | assumption | (apply Ne.symm; assumption)); (repeat (first | exact List.nil_sublist _ | apply List.Sublist.cons_cons | apply List.Sublist.cons)); done) | (refine hN q y ?_ ?_; (first | assumption | (apply Ne.symm; assumption)); (repeat (first | exact List.nil_sublist _ | apply List.Sublist.cons_cons | apply List.Sublist.cons)); done) | (refine hN r a ?_ ?_; (first | assumption | (apply Ne.symm; assumption)); (repeat (first | exact List.nil_sublist _ | apply List.Sublist.cons_cons | apply List.Sublist.cons)); done) | (refine hN r b ?_ ?_; (first | assumption | (apply Ne.symm; assumption)); (repeat (first | exact List.nil_sublist _ | apply List.Sublist.cons_cons | apply List.Sublist.cons)); done) | (refine hN r p ?_ ?_; (first | assumption | (apply Ne.symm; assumption)); (repeat (first | exact List.nil_sublist _ | apply List.Sublist.cons_cons | apply List.Sublist.cons)); done) | (refine hN r q ?_ ?_; (first | assumption | (apply Ne.symm; assumption)); (repeat (first | exact List.nil_sublist _ | apply List.Sublist.cons_cons | apply List.Sublist.cons)); done) | (refine hN r s ?_ ?_; (first | assumption | (apply Ne.symm; assumption)); (repeat (first | exact List.nil_sublist _ | apply List.Sublist.cons_cons | apply List.Sublist.cons)); done) | (refine hN r x ?_ ?_; (first | assumption | (apply Ne.symm; assumption)); (repeat (first | exact List.nil_sublist _ | apply List.Sublist.cons_cons | apply List.Sublist.cons)); done) | (refine hN r y ?_ ?_; (first | assumption | (apply Ne.symm; assumption)); (repeat (first | exact List.nil_sublist _ | apply List.Sublist.cons_cons | apply List.Sublist.cons)); done) | (refine hN s a ?_ ?_; (first | assumption | (apply Ne.symm; assumption)); (repeat (first | exact List.nil_sublist _ | apply List.Sublist.cons_cons | apply List.Sublist.cons)); done) | (refine hN s b ?_ ?_; (first | assumption | (apply Ne.symm; assumption)); (repeat (first | exact List.nil_sublist _ | apply List.Sublist.cons_cons | apply List.Sublist.cons)); done) | (refine hN s p ?_ ?_; (first | assumption | (apply Ne.symm; assumption)); (repeat (first | exact List.nil_sublist _ | apply List.Sublist.cons_cons | apply List.Sublist.cons)); done) | (refine hN s q ?_ ?_; (first | assumption | (apply Ne.symm; assumption)); (repeat (first | exact List.nil_sublist _ | apply List.Sublist.cons_cons | apply List.Sublist.cons)); done) | (refine hN s r ?_ ?_; (first | assumption | (apply Ne.symm; assumption)); (repeat (first | exact List.nil_sublist _ | apply List.Sublist.cons_cons | apply List.Sublist.cons)); done) | (refine hN s x ?_ ?_; (first | assumption | (apply Ne.symm; assumption)); (repeat (first | exact List.nil_sublist _ | apply List.Sublist.cons_cons | apply List.Sublist.cons)); done) | (refine hN s y ?_ ?_; (first | assumption | (apply Ne.symm; assumption)); (repeat (first | exact List.nil_sublist _ | apply List.Sublist.cons_cons | apply List.Sublist.cons)); done) | (refine hN x a ?_ ?_; (first | assumption | (apply Ne.symm; assumption)); (repeat (first | exact List.nil_sublist _ | apply List.Sublist.cons_cons | apply List.Sublist.cons)); done) | (refine hN x b ?_ ?_; (first | assumption | (apply Ne.symm; assumption)); (repeat (first | exact List.nil_sublist _ | apply List.Sublist.cons_cons | apply List.Sublist.cons)); done) | (refine hN x p ?_ ?_; (first | assumption | (apply Ne.symm; assumption)); (repeat (first | exact List.nil_sublist _ | apply List.Sublist.cons_cons | apply List.Sublist.cons)); done) | (refine hN x q ?_ ?_; (first | assumption | (apply Ne.symm; assumption)); (repeat (first | exact List.nil_sublist _ | apply List.Sublist.cons_cons | apply List.Sublist.cons)); done) | (refine hN x r ?_ ?_; (first | assumption | (apply Ne.symm; assumption)); (repeat (first | exact List.nil_sublist _ | apply List.Sublist.cons_cons | apply List.Sublist.cons)); done) | (refine hN x s ?_ ?_; (first | assumption | (apply Ne.symm; assumption)); (repeat (first | exact List.nil_sublist _ | apply List.Sublist.cons_cons | apply List.Sublist.cons)); done) | (refine hN x y ?_ ?_; (first | assumption | (apply Ne.symm; assumption)); (repeat (first | exact List.nil_sublist _ | apply List.Sublist.cons_cons | apply List.Sublist.cons)); done) | (refine hN y a ?_ ?_; (first | assumption | (apply Ne.symm; assumption)); (repeat (first | exact List.nil_sublist _ | apply List.Sublist.cons_cons | apply List.Sublist.cons)); done) | (refine hN y b ?_ ?_; (first | assumption | (apply Ne.symm; assumption)); (repeat (first | exact List.nil_sublist _ | apply List.Sublist.cons_cons | apply List.Sublist.cons)); done) | (refine hN y p ?_ ?_; (first | assumption | (apply Ne.symm; assumption)); (repeat (first | exact List.nil_sublist _ | apply List.Sublist.cons_cons | apply List.Sublist.cons)); done) | (refine hN y q ?_ ?_; (first | assumption | (apply Ne.symm; assumption)); (repeat (first | exact List.nil_sublist _ | apply List.Sublist.cons_cons | apply List.Sublist.cons)); done) | (refine hN y r ?_ ?_; (first | assumption | (apply Ne.symm; assumption)); (repeat (first | exact List.nil_sublist _ | apply List.Sublist.cons_cons | apply List.Sublist.cons)); done) | (refine hN y s ?_ ?_; (first | assumption | (apply Ne.symm; assumption)); (repeat (first | exact List.nil_sublist _ | apply List.Sublist.cons_cons | apply List.Sublist.cons)); done) | (refine hN y x ?_ ?_; (first | assumption | (apply Ne.symm; assumption)); (repeat (first | exact List.nil_sublist _ | apply List.Sublist.cons_cons | apply List.Sublist.cons)); done)))
theorem ofSeen_map {h : Int → Int} : ∀ (l s : List Int), (∀ a ∈ s ++ l, ∀ b ∈ s ++ l, h a = h b → a = b) → ofSeen (s.map h) (l.map h) = (ofSeen s l).map h
 | [], _, _ => rfl
 | x :: l, s, inj => by
  show ofSeen (seeOne (s.map h) (h x)) (l.map h) = (ofSeen (seeOne s x) l).map h
  have e : seeOne (s.map h) (h x) = (seeOne s x).map h := by
   unfold seeOne
   by_cases m : x ∈ s
   ·rw [if_pos m, if_pos (List.mem_map.2 ⟨x, m, rfl⟩)]
   ·rw [if_neg m, if_neg (fun q => by obtain ⟨a, ha, e⟩ := List.mem_map.1 q; exact m (inj a (by simp [ha]) x (by simp) e ▸ ha)), List.map_append]; rfl
  have m : ∀ a, a ∈ seeOne s x ++ l → a ∈ s ++ x :: l := fun a ha => by
   rw [List.mem_append, seeOne_mem] at ha
   rw [List.mem_append, List.mem_cons]
   rcases ha with (ha | ha) | ha
   ·exact .inl ha
   ·exact .inr (.inl ha)
   ·exact .inr (.inr ha)
  rw [e, ofSeen_map l (seeOne s x) (fun a ha b hb => inj a (m a ha) b (m b hb))]
theorem idx_map {h : Int → Int} {x : Int} : ∀ s : List Int, (∀ a ∈ s, h a = h x → a = x) → (s.map h).idxOf (h x) = s.idxOf x
 | [], _ => rfl
 | a :: s, inj => by
  have ih := idx_map s (fun b hb => inj b (List.mem_cons_of_mem _ hb))
  rw [List.map_cons, List.idxOf_cons, List.idxOf_cons, ih]
  by_cases e : a = x
  ·subst e; simp
  ·have e2 : h a ≠ h x := fun q => e (inj a (List.mem_cons_self ..) q)
   rw [show (h a == h x) = false from beq_eq_false_iff_ne.2 e2, show (a == x) = false from beq_eq_false_iff_ne.2 e]
theorem ixs_map {h : Int → Int} (s l : List Int) (inj : ∀ a ∈ s, ∀ b ∈ l, h a = h b → a = b) : ixs (s.map h) (l.map h) = ixs s l := by
 unfold ixs
 rw [List.map_map]
 exact List.map_congr_left fun x hx => by
  show (((s.map h).idxOf (h x) : Nat) : Int) = _
  rw [idx_map s (fun a ha e => inj a ha x hx e)]
theorem ren_map {h : Int → Int} (u d : List Int) (inj : ∀ a ∈ u ++ d, ∀ b ∈ u ++ d, h a = h b → a = b) : ren (u.map h) (d.map h) = ren u d := by
 unfold ren
 have e : ofSeen [] (u.map h ++ d.map h) = (ofSeen [] (u ++ d)).map h := by
  rw [← List.map_append]; exact ofSeen_map (u ++ d) [] (by simpa using inj)
 have m : ∀ a, a ∈ ofSeen [] (u ++ d) → a ∈ u ++ d := fun a ha => by
  rcases (ofSeen_mem _ _ _).1 ha with q | q
  ·cases q
  ·exact q
 rw [e, ixs_map _ u (fun a ha b hb => inj a (m a ha) b (by simp [hb])), ixs_map _ d (fun a ha b hb => inj a (m a ha) b (by simp [hb]))]
def ixOf (u d : List Int) (x : Int) : Int := (((ofSeen [] (u ++ d)).idxOf x : Nat) : Int)
theorem ren_eq (u d : List Int) : ren u d = (u.map (ixOf u d), d.map (ixOf u d)) := rfl
theorem ixOf_inj (u d : List Int) : ∀ a ∈ u ++ d, ∀ b ∈ u ++ d, ixOf u d a = ixOf u d b → a = b := by
 intro a ha b hb e
 have h1 := rd_idx _ a ((ofSeen_mem (u ++ d) [] a).2 (.inr ha))
 have h2 := rd_idx _ b ((ofSeen_mem (u ++ d) [] b).2 (.inr hb))
 unfold ixOf at e
 rw [e] at h1
 exact h1.symm.trans h2
theorem ren_ren (u d : List Int) : ren (ren u d).1 (ren u d).2 = ren u d := by
 rw [ren_eq u d]
 exact (ren_map u d (ixOf_inj u d)).trans (ren_eq u d)
theorem mem_round {u d : List Int} {x : Int} : x ∈ roundW u d ↔ x ∈ u ++ d := by unfold roundW; simp
theorem goodB_ren {u d : List Int} {c : Int} (hc : Cnt2 (roundW u d)) (hn : NPat (roundW u d)) (h0 : 0 ≤ c) : goodB (ren u d).1 (ren u d).2 c = decide (u.length ≤ 6 ∧ d.length ≤ 6 ∧ c ≤ 6) := by
 by_cases hs : u.length ≤ 6 ∧ d.length ≤ 6 ∧ c ≤ 6
 ·rw [decide_eq_true hs]
  refine tf_iff.2 ?_
  obtain ⟨h1, h2, h3⟩ := hs
  have lt : ∀ x ∈ u ++ d, 0 ≤ ixOf u d x ∧ ixOf u d x ≤ 6 := by
   intro x hx
   have hm := (ofSeen_mem (u ++ d) [] x).2 (.inr hx)
   have := List.idxOf_lt_length_of_mem hm
   have hh := half_le (ofSeen [] (u ++ d)) (roundW u d) (ofSeen_nodup _ _ (by simp)) (fun y hy => hc y (mem_round.2 (by
    rcases (ofSeen_mem _ _ _).1 hy with q | q
    ·cases q
    ·exact q)))
   have hl : (roundW u d).length ≤ 12 := by unfold roundW; simp; omega
   unfold ixOf; omega
  have e : roundW (ren u d).1 (ren u d).2 = (roundW u d).map (ixOf u d) := by
   rw [ren_eq]; unfold roundW; simp
  have inj : ∀ a ∈ roundW u d, ∀ b ∈ roundW u d, ixOf u d a = ixOf u d b → a = b := fun a ha b hb => ixOf_inj u d a (mem_round.1 ha) b (mem_round.1 hb)
  refine ⟨by rw [ren_eq]; simpa using h1, by rw [ren_eq]; simpa using h2, ⟨h0, h3⟩, fun j j0 j1 => ?_, fun j j0 j1 => ?_, by rw [ren_ren], by rw [ren_ren], (par_iff _).2 ⟨by rw [e]; exact hc.map inj, by rw [e]; exact hn.map inj⟩⟩
  ·have m := rd_mem _ j j0 j1
   rw [ren_eq] at m ⊢
   obtain ⟨x, hx, hxe⟩ := List.mem_map.1 m
   rw [← hxe]; exact lt x (by simp [hx])
  ·have m := rd_mem _ j j0 j1
   rw [ren_eq] at m ⊢
   obtain ⟨x, hx, hxe⟩ := List.mem_map.1 m
   rw [← hxe]; exact lt x (by simp [hx])
 ·rw [decide_eq_false hs]
  refine Bool.eq_false_iff.2 fun q => hs ?_
  have q := tf_iff.1 q
  rw [ren_eq] at q
  have q1 := q.1
  have q2 := q.2.1
  simp at q1 q2
  exact ⟨q1, q2, q.2.2.1.2⟩
theorem last_facts (l : List Int) (x : Int) (h : l.length < 1000000) : wrap64 (((l ++ [x]).length : Int) - 1) = (l.length : Int) ∧ rd (l ++ [x]) (l.length : Int) = x ∧ (l ++ [x]).take ((l.length : Int)).toNat = l := by
 refine ⟨?_, ?_, ?_⟩
 ·rw [w64 (by simp <;> omega) (by simp <;> omega)]; simp
 ·rw [rd_get _ l.length (by simp)]; simp
 ·simp
theorem ends {l : List Int} (h : l ≠ []) : ∃ l0 x, l = l0 ++ [x] := ⟨l.dropLast, l.getLast h, (List.dropLast_concat_getLast h).symm⟩
noncomputable def outS (u d : List Int) (c : Int) : List Int × List Int × Int × Bool := if u.length ≤ 6 ∧ d.length ≤ 6 ∧ c ≤ 6 then ((ren u d).1, (ren u d).2, c, true) else ([], [], 0, false)
noncomputable def finS (u d : List Int) (c : Int) : List Int × List Int × Int × Bool := ((ren u d).1, (ren u d).2, c, decide (u.length ≤ 6 ∧ d.length ≤ 6 ∧ c ≤ 6))
theorem specFin_any {u d : List Int} {c : Int} (hu : u.length ≤ 1000) (hd : d.length ≤ 1000) (hc : Cnt2 (roundW u d)) (hn : NPat (roundW u d)) (h0 : 0 ≤ c) :
  (∃ K, ∀ k, K ≤ k → (spec_stRename.f k u d).bind (fun bt => ((spec_stGood.f k bt.1 bt.2 c).bind fun t => (some (bt.1, bt.2, c, t)))) = some (finS u d c)) := by
 obtain ⟨K1, h1⟩ := stRename_any u d (by omega) (by omega)
 obtain ⟨K2, h2⟩ := stGood_any (ren u d).1 (ren u d).2 c (by rw [ren_eq]; simp; omega) (by rw [ren_eq]; simp; omega)
 refine ⟨K1 + K2, fun k hk => ?_⟩
 rw [h1 k (by omega), Option.bind_some, h2 k (by omega), Option.bind_some, goodB_ren hc hn h0]; rfl
theorem stStep_l1 {u d : List Int} {c x y : Int} {R : List Int × List Int × Int × Bool} (hd : d.length ≤ 1000)
  (hf : (∃ K, ∀ k, K ≤ k → (spec_stRename.f k u (swpL y x d)).bind (fun bt => ((spec_stGood.f k bt.1 bt.2 c).bind fun t => (some (bt.1, bt.2, c, t)))) = some (R))) (e : Nat) :
  ∀ i : Nat, i + e = d.length → (∃ K, ∀ k, K ≤ k → spec_stStep.l1 k u (mixL y x d i) c x y d.length (i : Int) = some (R)) := by
 obtain ⟨K, hf⟩ := hf
 induction e with
 | zero =>
  intro i hi
  refine ev_rs K fun m hm => ?_
  obtain rfl : i = d.length := by omega
  rw [spec_stStep.l1, if_neg (by omega), mixL_all]
  exact hf m hm
 | succ e ih =>
  intro i hi
  obtain ⟨K2, ih⟩ := ih (i + 1) (by omega)
  refine ev_rs K2 fun m hm => ?_
  have ih := ih m hm
  rw [show (((i + 1 : Nat)) : Int) = (i : Int) + 1 by omega] at ih
  rw [spec_stStep.l1, if_pos (by omega), if_pos (by omega), if_pos (by rw [mixL_len]; omega), mixL_rd y x d i (by omega), w64 (by omega) (by omega)]
  by_cases q : rd d (i : Int) = y
  ·rw [if_pos q, Int.toNat_natCast, mixL_set y x d i (by omega) q]; exact ih
  ·rw [if_neg q, mixL_keep y x d i (by omega) q]; exact ih
theorem stStep_l0 {u d : List Int} {c x y : Int} {R : List Int × List Int × Int × Bool} (hu : u.length ≤ 1000) (hd : d.length ≤ 1000)
  (hf : (∃ K, ∀ k, K ≤ k → (spec_stRename.f k (swpL y x u) (swpL y x d)).bind (fun bt => ((spec_stGood.f k bt.1 bt.2 c).bind fun t => (some (bt.1, bt.2, c, t)))) = some (R))) (e : Nat) :
  ∀ i : Nat, i + e = u.length → (∃ K, ∀ k, K ≤ k → spec_stStep.l0 k (mixL y x u i) d c x y u.length (i : Int) = some (R)) := by
 induction e with
 | zero =>
  intro i hi
  obtain ⟨K, h⟩ := stStep_l1 (u := swpL y x u) hd hf d.length 0 (by omega)
  rw [mixL_0] at h
  refine ev_rs K fun m hm => ?_
  obtain rfl : i = u.length := by omega
  rw [spec_stStep.l0, if_neg (by omega), mixL_all]
  exact h m hm
 | succ e ih =>
  intro i hi
  obtain ⟨K2, ih⟩ := ih (i + 1) (by omega)
  refine ev_rs K2 fun m hm => ?_
  have ih := ih m hm
  rw [show (((i + 1 : Nat)) : Int) = (i : Int) + 1 by omega] at ih
  rw [spec_stStep.l0, if_pos (by omega), if_pos (by omega), if_pos (by rw [mixL_len]; omega), mixL_rd y x u i (by omega), w64 (by omega) (by omega)]
  by_cases q : rd u (i : Int) = y
  ·rw [if_pos q, Int.toNat_natCast, mixL_set y x u i (by omega) q]; exact ih
  ·rw [if_neg q, mixL_keep y x u i (by omega) q]; exact ih
theorem stStep_j1 {u d : List Int} {c x y : Int} {R : List Int × List Int × Int × Bool} (hu : u.length ≤ 1000) (hd : d.length ≤ 1000)
  (hf : (∃ K, ∀ k, K ≤ k → (spec_stRename.f k (swpL y x u) (swpL y x d)).bind (fun bt => ((spec_stGood.f k bt.1 bt.2 c).bind fun t => (some (bt.1, bt.2, c, t)))) = some (R))) : (∃ K, ∀ k, K ≤ k → spec_stStep.j1 k u d c x y = some (R)) := by
 obtain ⟨K, h⟩ := stStep_l0 hu hd hf u.length 0 (by omega)
 rw [mixL_0] at h
 refine ev_rs K fun m hm => ?_
 rw [spec_stStep.j1]
 exact h m hm
def rawS (u d : List Int) (c a : Int) : List Int × List Int × Int :=
 if a = 0 then (u ++ [-1], d ++ [-1], c) else if a = 1 then (u ++ [rd d ((d.length : Int) - 1)], d.take (d.length - 1), c) else if a = 2 then (u.take (u.length - 1), d ++ [rd u ((u.length : Int) - 1)], c)
 else (swpL (rd d ((d.length : Int) - 1)) (rd u ((u.length : Int) - 1)) (u.take (u.length - 1)), swpL (rd d ((d.length : Int) - 1)) (rd u ((u.length : Int) - 1)) (d.take (d.length - 1)), if rd u ((u.length : Int) - 1) = rd d ((d.length : Int) - 1) then c + 1 else c)
def mayS (u d : List Int) (a : Int) : Bool := decide ((0 ≤ a ∧ a ≤ 3) ∧ (2 ≤ a → u ≠ []) ∧ (a = 1 ∨ a = 3 → d ≠ []))
theorem snoc_facts (l : List Int) (x : Int) : rd (l ++ [x]) (((l ++ [x]).length : Int) - 1) = x ∧ (l ++ [x]).take ((l ++ [x]).length - 1) = l := by
 refine ⟨?_, by simp⟩
 rw [show (((l ++ [x]).length : Int) - 1) = (l.length : Int) by simp, rd_get _ l.length (by simp)]; simp
theorem goodB_len6 {u d : List Int} {c : Int} (h : goodB u d c = true) : u.length ≤ 6 ∧ d.length ≤ 6 := by
 have := tf_iff.1 h
 exact ⟨this.1, this.2.1⟩
theorem good_word {u d : List Int} {c : Int} (g : goodB u d c = true) : Cnt2 (roundW u d) ∧ NPat (roundW u d) := (par_iff _).1 (tf_iff.1 g).2.2.2.2.2.2.2
theorem good_neg {u d : List Int} {c : Int} (g : goodB u d c = true) : ∀ x ∈ u ++ d, 0 ≤ x ∧ x ≤ 6 := by
 have g := tf_iff.1 g
 intro x hx
 rcases List.mem_append.1 hx with m | m
 ·obtain ⟨j, h1, h2⟩ := List.mem_iff_getElem.1 m
  have := g.2.2.2.1 (j : Nat) (by omega) (by omega)
  rwa [rd_get u j h1, h2] at this
 ·obtain ⟨j, h1, h2⟩ := List.mem_iff_getElem.1 m
  have := g.2.2.2.2.1 (j : Nat) (by omega) (by omega)
  rwa [rd_get d j h1, h2] at this
theorem raw_good {u d : List Int} {c a : Int} (g : goodB u d c = true) (m : mayS u d a = true) : Cnt2 (roundW (rawS u d c a).1 (rawS u d c a).2.1) ∧ NPat (roundW (rawS u d c a).1 (rawS u d c a).2.1) ∧ 0 ≤ (rawS u d c a).2.2 := by
 obtain ⟨hc, hn⟩ := good_word g
 have hneg := good_neg g
 have h0 := (tf_iff.1 g).2.2.1.1
 obtain ⟨⟨a0, a3⟩, m1, m2⟩ := of_decide_eq_true m
 unfold rawS
 by_cases e0 : a = 0
 ·rw [if_pos e0]
  have n1 : (-1 : Int) ∉ u := fun q => by have := hneg (-1) (by simp [q]); omega
  have n2 : (-1 : Int) ∉ d.reverse := fun q => by have := hneg (-1) (by rw [List.mem_reverse] at q; simp [q]); omega
  have e : roundW (u ++ [-1]) (d ++ [-1]) = u ++ (-1) :: (-1) :: d.reverse := by unfold roundW; simp
  refine ⟨?_, ?_, h0⟩
  ·show Cnt2 (roundW (u ++ [-1]) (d ++ [-1])); rw [e]; exact hc.two n1 n2
  ·show NPat (roundW (u ++ [-1]) (d ++ [-1])); rw [e]; exact hn.two n1 n2
 rw [if_neg e0]
 by_cases e1 : a = 1
 ·rw [if_pos e1]
  obtain ⟨d0, y, rfl⟩ := ends (m2 (.inl e1))
  obtain ⟨f1, f2⟩ := snoc_facts d0 y
  rw [f1, f2]
  have e : roundW (u ++ [y]) d0 = roundW u (d0 ++ [y]) := by unfold roundW; simp
  refine ⟨?_, ?_, h0⟩
  ·show Cnt2 (roundW (u ++ [y]) d0); rw [e]; exact hc
  ·show NPat (roundW (u ++ [y]) d0); rw [e]; exact hn
 rw [if_neg e1]
 by_cases e2 : a = 2
 ·rw [if_pos e2]
  obtain ⟨u0, x, rfl⟩ := ends (m1 (by omega))
  obtain ⟨f1, f2⟩ := snoc_facts u0 x
  rw [f1, f2]
  have e : roundW u0 (d ++ [x]) = roundW (u0 ++ [x]) d := by unfold roundW; simp
  refine ⟨?_, ?_, h0⟩
  ·show Cnt2 (roundW u0 (d ++ [x])); rw [e]; exact hc
  ·show NPat (roundW u0 (d ++ [x])); rw [e]; exact hn
 rw [if_neg e2]
 obtain ⟨u0, x, rfl⟩ := ends (m1 (by omega))
 obtain ⟨d0, y, rfl⟩ := ends (m2 (by omega))
 obtain ⟨f1, f2⟩ := snoc_facts u0 x
 obtain ⟨f3, f4⟩ := snoc_facts d0 y
 rw [f1, f2, f3, f4]
 have e : roundW (u0 ++ [x]) (d0 ++ [y]) = u0 ++ x :: y :: d0.reverse := by unfold roundW; simp
 have e2 : roundW (swpL y x u0) (swpL y x d0) = joinL x y (u0 ++ d0.reverse) := by unfold roundW swpL joinL; simp
 rw [e] at hc hn
 refine ⟨?_, ?_, by show 0 ≤ (if x = y then c + 1 else c); split <;> omega⟩
 ·show Cnt2 (roundW (swpL y x u0) (swpL y x d0))
  rw [e2]
  by_cases q : x = y
  ·subst q
   have : joinL x x (u0 ++ d0.reverse) = u0 ++ d0.reverse := by
    unfold joinL
    exact (List.map_congr_left (g := id) fun v _ => by show (if v = x then x else v) = v; split <;> simp_all).trans (List.map_id _)
   rw [this]
   intro z hz
   have hx := hc x (by simp)
   have hz2 := hc z (by simp at hz ⊢; exact hz.elim .inl fun m => .inr (.inr m))
   rw [List.count_append, List.count_cons_self, List.count_cons_self] at hx
   have zx : z ≠ x := fun q => by
    subst q
    have := List.count_pos_iff.2 hz
    rw [List.count_append] at this; omega
   rwa [List.count_append, List.count_cons_of_ne (Ne.symm zx), List.count_cons_of_ne (Ne.symm zx), ← List.count_append] at hz2
  ·exact hc.join q
 ·show NPat (roundW (swpL y x u0) (swpL y x d0))
  rw [e2]
  by_cases q : x = y
  ·subst q
   have : joinL x x (u0 ++ d0.reverse) = u0 ++ d0.reverse := by
    unfold joinL
    exact (List.map_congr_left (g := id) fun v _ => by show (if v = x then x else v) = v; split <;> simp_all).trans (List.map_id _)
   rw [this]
   exact hn.sub ((List.Sublist.refl u0).append (((List.Sublist.refl _).cons x).cons x))
  ·exact hn.join q hc
theorem rawS_len (u d : List Int) (c a : Int) : (rawS u d c a).1.length ≤ u.length + 1 ∧ (rawS u d c a).2.1.length ≤ d.length + 1 := by
 unfold rawS swpL
 split
 ·simp
 split
 ·simp; omega
 split
 ·simp; omega
 ·simp; omega
theorem stStep_may {u d : List Int} {c a : Int} (g : goodB u d c = true) (m : mayS u d a = true) : (∃ K, ∀ k, K ≤ k → spec_stStep.f k u d c a = some (finS (rawS u d c a).1 (rawS u d c a).2.1 (rawS u d c a).2.2)) := by
 obtain ⟨hu, hd⟩ := goodB_len6 g
 obtain ⟨l1, l2⟩ := rawS_len u d c a
 obtain ⟨r1, r2, r3⟩ := raw_good g m
 obtain ⟨K, hf⟩ := specFin_any (by omega) (by omega) r1 r2 r3
 have h6 := (tf_iff.1 g).2.2.1
 obtain ⟨⟨a0, a3⟩, m1, m2⟩ := of_decide_eq_true m
 clear r1 r2 r3 l1 l2
 have o1 := l1Own_any u (by omega)
 have o2 := l1Own_any d (by omega)
 have start : ∀ {b : Bool}, b = false → (∃ K, ∀ k, K ≤ k → spec_stStep.j0 k a u d c (wrap64 ((u.length : Int) - 1)) (wrap64 ((d.length : Int) - 1)) b = some (finS (rawS u d c a).1 (rawS u d c a).2.1 (rawS u d c a).2.2)) → True := fun _ _ => trivial
 have ar : a = 0 ∨ a = 1 ∨ a = 2 ∨ a = 3 := by omega
 have nu : 2 ≤ a → ¬ wrap64 ((u.length : Int) - 1) < 0 := fun q => by
  have := List.length_pos_iff.2 (m1 q)
  rw [w64 (by omega) (by omega)]; omega
 have nd : a = 1 ∨ a = 3 → decide (wrap64 ((d.length : Int) - 1) < 0) = false := fun q => by
  have := List.length_pos_iff.2 (m2 q)
  rw [w64 (by omega) (by omega)]; exact decide_eq_false (by omega)
 have main : (∃ K, ∀ k, K ≤ k → spec_stStep.j0 k a u d c (wrap64 ((u.length : Int) - 1)) (wrap64 ((d.length : Int) - 1)) false = some (finS (rawS u d c a).1 (rawS u d c a).2.1 (rawS u d c a).2.2)) := by
  rcases ar with rfl | rfl | rfl | rfl
  ·refine ev_rs K fun k hk => ?_
   rw [spec_stStep.j0, if_neg (by decide), if_pos rfl, if_pos (by omega), if_pos (by omega)]
   exact hf k hk
  ·obtain ⟨d0, y, rfl⟩ := ends (m2 (.inl rfl))
   obtain ⟨f1, f2⟩ := snoc_facts d0 y
   obtain ⟨e1, e2, e3⟩ := last_facts d0 y (by simp at hd; omega)
   simp only [List.length_append, List.length_cons, List.length_nil] at hd
   refine ev_rs K fun k hk => ?_
   have h := hf k hk
   unfold rawS at h ⊢
   rw [if_neg (by decide), if_pos rfl, f1, f2] at h ⊢
   rw [e1, spec_stStep.j0, if_neg (by decide), if_neg (by decide), if_pos rfl, if_pos (by omega), if_pos (by simp; omega), if_pos (by omega), if_pos (by simp; omega), e2, e3]
   exact h
  ·obtain ⟨u0, x, rfl⟩ := ends (m1 (by omega))
   obtain ⟨f1, f2⟩ := snoc_facts u0 x
   obtain ⟨e1, e2, e3⟩ := last_facts u0 x (by simp at hu; omega)
   simp only [List.length_append, List.length_cons, List.length_nil] at hu
   refine ev_rs K fun k hk => ?_
   have h := hf k hk
   unfold rawS at h ⊢
   rw [if_neg (by decide), if_neg (by decide), if_pos rfl, f1, f2] at h ⊢
   rw [e1, spec_stStep.j0, if_neg (by decide), if_neg (by decide), if_neg (by decide), if_pos rfl, if_pos (by omega), if_pos (by simp; omega), if_pos (by omega), if_pos (by simp; omega), e2, e3]
   exact h
  ·obtain ⟨u0, x, rfl⟩ := ends (m1 (by omega))
   obtain ⟨d0, y, rfl⟩ := ends (m2 (by omega))
   obtain ⟨f1, f2⟩ := snoc_facts u0 x
   obtain ⟨f3, f4⟩ := snoc_facts d0 y
   obtain ⟨e1, e2, e3⟩ := last_facts u0 x (by simp at hu; omega)
   obtain ⟨e4, e5, e6⟩ := last_facts d0 y (by simp at hd; omega)
   simp only [List.length_append, List.length_cons, List.length_nil] at hu hd
   have rw3 : rawS (u0 ++ [x]) (d0 ++ [y]) c 3 = (swpL y x u0, swpL y x d0, if x = y then c + 1 else c) := by
    unfold rawS
    rw [if_neg (by decide), if_neg (by decide), if_neg (by decide), f1, f2, f3, f4]
   rw [rw3] at hf ⊢
   dsimp only at hf ⊢
   obtain ⟨K2, h2⟩ := stStep_j1 (u := u0) (d := d0) (c := if x = y then c + 1 else c) (x := x) (y := y) (R := finS (swpL y x u0) (swpL y x d0) (if x = y then c + 1 else c)) (by omega) (by omega) ⟨K, hf⟩
   refine ev_rs K2 fun k hk => ?_
   have h := h2 k hk
   rw [e1, e4, spec_stStep.j0, if_neg (by decide), if_neg (by decide), if_neg (by decide), if_neg (by decide), if_pos (by omega), if_pos (by simp; omega), if_pos (by omega), if_pos (by simp; omega), if_pos (by simp; omega), e2, e3, e5, e6, Option.bind_some, if_pos (by simp; omega), Option.bind_some]
   by_cases q : x = y
   ·rw [if_pos q, w64 (by omega) (by omega), if_pos q]
    rw [if_pos q] at h; exact h
   ·rw [if_neg q, if_neg q]
    rw [if_neg q] at h; exact h
 obtain ⟨K2, hm⟩ := main
 refine ⟨K2, fun k hk => ?_⟩
 have hm := hm k hk
 unfold spec_stStep.f
 rw [o1, Option.bind_some, o2, Option.bind_some]
 rcases ar with rfl | rfl | rfl | rfl
 ·rw [if_neg (by decide), if_neg (by decide)]; exact hm
 ·rw [if_neg (by decide), if_pos (by decide), nd (.inl rfl)]; exact hm
 ·rw [if_pos (by decide), if_neg (nu (by decide)), if_neg (by decide)]; exact hm
 ·rw [if_pos (by decide), if_neg (nu (by decide)), if_pos (by decide), nd (.inr rfl)]; exact hm
theorem swpL_len (y x : Int) (l : List Int) : (swpL y x l).length = l.length := by unfold swpL; simp
theorem small_wf {l : List Int} (h : ∀ x ∈ l, -1 ≤ x ∧ x ≤ 100) : wfB l = true := List.all_eq_true.2 fun x hx => by
 have := h x hx
 simp [Lit.wf, IntKind.min, IntKind.max, IntKind.bits, IntKind.signed]; omega
theorem last_any (l : List Int) (x : Int) (h : l.length < 1000000) : impl_last.f (l ++ [x]) = some (l, x) := by
 obtain ⟨e1, e2, e3⟩ := last_facts l x h
 unfold impl_last.f
 rw [e1, if_pos (by omega), if_pos (by simp; omega), e3, clone_any l (by omega), Option.bind_some, if_pos (by simp; omega), e2]
theorem j3_any {u d : List Int} {c : Int} (hu : u.length ≤ 1000) (hd : d.length ≤ 1000) (wu : ∀ x ∈ u, -1 ≤ x ∧ x ≤ 100) (wd : ∀ x ∈ d, -1 ≤ x ∧ x ≤ 100) : (∃ K, ∀ k, K ≤ k → impl_State_stepped.j3 k u d c = some (outS u d c)) := by
 refine ⟨2, fun k hk => ?_⟩
 obtain ⟨q, rfl⟩ : ∃ q, k = q + 2 := ⟨k - 2, by omega⟩
 have hr := implRen_any u d c (small_wf wu) (small_wf wd) hu hd
 have yes : ∀ q, impl_State_stepped.j4 (q + 1) true u d c = some ([], [], 0, false) := fun q => by rw [impl_State_stepped.j4, if_pos rfl]
 rw [impl_State_stepped.j3]
 by_cases h1 : (u.length : Int) > 6
 ·rw [if_pos h1, yes, show outS u d c = ([], [], 0, false) from if_neg (by omega)]
 ·rw [if_neg h1]
  by_cases h2 : (d.length : Int) > 6
  ·rw [if_pos h2, yes, show outS u d c = ([], [], 0, false) from if_neg (by omega)]
  ·rw [if_neg h2]
   by_cases h3 : c > 6
   ·rw [decide_eq_true h3, yes, show outS u d c = ([], [], 0, false) from if_neg (by omega)]
   ·rw [decide_eq_false h3, impl_State_stepped.j4, if_neg (by decide), hr, Option.bind_some, show outS u d c = ((ren u d).1, (ren u d).2, c, true) from if_pos (by omega)]
theorem out_fresh {u d : List Int} {c : Int} (hneg : ∀ x ∈ u ++ d, 0 ≤ x ∧ x ≤ 6) : outS (u ++ [100]) (d ++ [100]) c = outS (u ++ [-1]) (d ++ [-1]) c := by
 have mp : ∀ l : List Int, (∀ x ∈ l, 0 ≤ x ∧ x ≤ 6) → (l ++ [-1]).map (fun v : Int => if v = -1 then 100 else v) = l ++ [100] := fun l hl => by
  rw [List.map_append]
  refine congr (congrArg _ ((List.map_congr_left (g := id) fun v hv => ?_).trans (List.map_id _))) rfl
  show (if v = -1 then 100 else v) = v
  have := hl v hv
  rw [if_neg (by omega)]
 have e := ren_map (h := fun v : Int => if v = -1 then 100 else v) (u ++ [-1]) (d ++ [-1]) (fun a ha b hb q => by
  have bd : ∀ z ∈ u ++ [-1] ++ (d ++ [-1]), z ≤ 6 := fun z hz => by
   simp at hz
   rcases hz with m | m | m | m
   ·exact (hneg z (by simp [m])).2
   ·omega
   ·exact (hneg z (by simp [m])).2
   ·omega
  have := bd a ha
  have := bd b hb
  have q : (if a = -1 then (100 : Int) else a) = (if b = -1 then 100 else b) := q
  by_cases qa : a = -1
  ·rw [if_pos qa] at q
   by_cases qb : b = -1
   ·omega
   ·rw [if_neg qb] at q; omega
  ·rw [if_neg qa] at q
   by_cases qb : b = -1
   ·rw [if_pos qb] at q; omega
   ·rw [if_neg qb] at q; exact q)
 rw [mp u (fun x hx => hneg x (by simp [hx])), mp d (fun x hx => hneg x (by simp [hx]))] at e
 unfold outS
 rw [e]; simp
theorem stepped_may {u d : List Int} {c a : Int} (g : goodB u d c = true) (m : mayS u d a = true) : (∃ K, ∀ k, K ≤ k → impl_State_stepped.f k u d c a = some (outS (rawS u d c a).1 (rawS u d c a).2.1 (rawS u d c a).2.2)) := by
 obtain ⟨hu, hd⟩ := goodB_len6 g
 have hneg := good_neg g
 have h6 := (tf_iff.1 g).2.2.1
 obtain ⟨⟨a0, a3⟩, m1, m2⟩ := of_decide_eq_true m
 have c1 := clone_any u (by omega)
 have c2 := clone_any d (by omega)
 have bu : ∀ x ∈ u, -1 ≤ x ∧ x ≤ 100 := fun x hx => by have := hneg x (by simp [hx]); omega
 have bd : ∀ x ∈ d, -1 ≤ x ∧ x ≤ 100 := fun x hx => by have := hneg x (by simp [hx]); omega
 have ar : a = 0 ∨ a = 1 ∨ a = 2 ∨ a = 3 := by omega
 have nil_ : ∀ l : List Int, l ≠ [] → ((l.length : Int) == 0) = false := fun l hl => by
  have := List.length_pos_iff.2 hl
  exact beq_eq_false_iff_ne.2 (by omega)
 rcases ar with rfl | rfl | rfl | rfl
 ·have ba : ∀ l : List Int, (∀ x ∈ l, -1 ≤ x ∧ x ≤ 100) → ∀ x ∈ l ++ [100], -1 ≤ x ∧ x ≤ 100 := fun l hl x hx => by
   rcases List.mem_append.1 hx with q | q
   ·exact hl x q
   ·rw [List.mem_singleton] at q; omega
  obtain ⟨K, h⟩ := j3_any (c := c) (u := u ++ [100]) (d := d ++ [100]) (by simp; omega) (by simp; omega) (ba u bu) (ba d bd)
  rw [out_fresh hneg] at h
  refine ⟨K + 3, fun k hk => ?_⟩
  obtain ⟨q, rfl⟩ : ∃ q, k = q + 3 := ⟨k - 3, by omega⟩
  unfold impl_State_stepped.f
  rw [if_pos (by decide), if_pos (by decide), impl_State_stepped.j0, if_neg (by decide), c1, Option.bind_some, c2, Option.bind_some, if_pos (by decide), impl_State_stepped.j1, if_pos (by decide), impl_State_stepped.j2, if_pos rfl, Option.bind_some, if_pos (by simp; omega), Option.bind_some, if_pos (by simp; omega)]
  exact h q (by omega)
 ·obtain ⟨d0, y, rfl⟩ := ends (m2 (.inl rfl))
  obtain ⟨f1, f2⟩ := snoc_facts d0 y
  have hl := last_any d0 y (by simp at hd; omega)
  have hy := bd y (by simp)
  obtain ⟨K, h⟩ := j3_any (c := c) (u := u ++ [y]) (d := d0) (by simp; omega) (by simp at hd; omega) (fun x hx => by
   rcases List.mem_append.1 hx with q | q
   ·exact bu x q
   ·rw [List.mem_singleton] at q; omega) (fun x hx => bd x (by simp [hx]))
  refine ⟨K + 3, fun k hk => ?_⟩
  obtain ⟨q, rfl⟩ : ∃ q, k = q + 3 := ⟨k - 3, by omega⟩
  unfold impl_State_stepped.f
  rw [if_neg (by decide), if_neg (by simp; omega), if_pos (by decide), impl_State_stepped.j0, if_neg (by decide), c1, Option.bind_some, c2, Option.bind_some, if_pos (by decide), impl_State_stepped.j1, if_neg (by decide), hl, Option.bind_some, impl_State_stepped.j2, if_neg (by decide), if_pos rfl, Option.bind_some, if_pos (by simp; omega)]
  unfold rawS
  rw [if_neg (by decide), if_pos rfl, f1, f2]
  exact h q (by omega)
 ·obtain ⟨u0, x, rfl⟩ := ends (m1 (by omega))
  obtain ⟨f1, f2⟩ := snoc_facts u0 x
  have hl := last_any u0 x (by simp at hu; omega)
  have hx := bu x (by simp)
  obtain ⟨K, h⟩ := j3_any (c := c) (u := u0) (d := d ++ [x]) (by simp at hu; omega) (by simp; omega) (fun z hz => bu z (by simp [hz])) (fun z hz => by
   rcases List.mem_append.1 hz with q | q
   ·exact bd z q
   ·rw [List.mem_singleton] at q; omega)
  refine ⟨K + 3, fun k hk => ?_⟩
  obtain ⟨q, rfl⟩ : ∃ q, k = q + 3 := ⟨k - 3, by omega⟩
  unfold impl_State_stepped.f
  rw [if_pos (by decide), if_neg (by decide), nil_ _ (m1 (by decide)), impl_State_stepped.j0, if_neg (by decide), c1, Option.bind_some, c2, Option.bind_some, if_neg (by decide), hl, Option.bind_some, impl_State_stepped.j1, if_pos (by decide), impl_State_stepped.j2, if_neg (by decide), if_neg (by decide), if_pos rfl, Option.bind_some, if_pos (by simp; omega)]
  unfold rawS
  rw [if_neg (by decide), if_neg (by decide), if_pos rfl, f1, f2]
  exact h q (by omega)
 ·obtain ⟨u0, x, rfl⟩ := ends (m1 (by omega))
  obtain ⟨d0, y, rfl⟩ := ends (m2 (by omega))
  obtain ⟨f1, f2⟩ := snoc_facts u0 x
  obtain ⟨f3, f4⟩ := snoc_facts d0 y
  have hlu := last_any u0 x (by simp at hu; omega)
  have hld := last_any d0 y (by simp at hd; omega)
  have hx := bu x (by simp)
  have sw : ∀ l : List Int, (∀ z ∈ l, -1 ≤ z ∧ z ≤ 100) → ∀ z ∈ swpL y x l, -1 ≤ z ∧ z ≤ 100 := fun l hl z hz => by
   obtain ⟨v, hv, e⟩ := List.mem_map.1 hz
   by_cases q : v = y
   ·rw [if_pos q] at e; subst e; exact hx
   ·rw [if_neg q] at e; subst e; exact hl v hv
  have rw3 : rawS (u0 ++ [x]) (d0 ++ [y]) c 3 = (swpL y x u0, swpL y x d0, if x = y then c + 1 else c) := by
   unfold rawS
   rw [if_neg (by decide), if_neg (by decide), if_neg (by decide), f1, f2, f3, f4]
  have wc : (if x = y then wrap64 (c + 1) else c) = (if x = y then c + 1 else c) := by rw [w64 (by omega) (by omega)]
  simp only [List.length_append, List.length_cons, List.length_nil] at hu hd
  obtain ⟨K, h⟩ := j3_any (c := if x = y then c + 1 else c) (u := swpL y x u0) (d := swpL y x d0) (by rw [swpL_len]; omega) (by rw [swpL_len]; omega) (sw u0 fun z hz => bu z (by simp [hz])) (sw d0 fun z hz => bd z (by simp [hz]))
  refine ⟨K + 3, fun k hk => ?_⟩
  obtain ⟨q, rfl⟩ : ∃ q, k = q + 3 := ⟨k - 3, by omega⟩
  unfold impl_State_stepped.f
  rw [if_neg (by decide), if_neg (by simp; omega), if_neg (by decide), nil_ _ (m1 (by decide)), impl_State_stepped.j0, if_neg (by decide), c1, Option.bind_some, c2, Option.bind_some, if_neg (by decide), hlu, Option.bind_some, impl_State_stepped.j1, if_neg (by decide), hld, Option.bind_some, impl_State_stepped.j2, if_neg (by decide), if_neg (by decide), if_neg (by decide), if_neg (by show ¬ 1000 < u0.length; omega), if_neg (by show ¬ 1000 < d0.length; omega), rw3]
  dsimp only
  rw [wc]
  exact h q (by omega)
def dep (l : List Int) : Nat → Int
 | 0 => 0
 | i + 1 => dep l i + (if rd l (i : Int) < (i : Int) then -1 else 1)
def cls (l : List Int) : Nat → Int
 | 0 => 0
 | i + 1 => cls l i + (if rd l (i : Int) < (i : Int) then 1 else 0)
def depOk (l : List Int) (i : Nat) : Bool := decide (dep l i ≤ 6) && decide (cls l i ≤ 6) && (decide (l.length ≤ i) || decide (¬ rd l (i : Int) < (i : Int)) || decide (1 ≤ dep l i))
theorem dep_table : ((List.range 7).all fun n => (Pl.sysList n).all fun l => (List.range (l.length + 1)).all fun i => depOk l i) = true := by decide +kernel
theorem dep_at {l : List Int} (h : sysB l = true) (i : Nat) (hi : i ≤ l.length) : dep l i ≤ 6 ∧ cls l i ≤ 6 ∧ (i < l.length → rd l (i : Int) < (i : Int) → 1 ≤ dep l i) := by
 obtain ⟨h7, hm⟩ := sysB_mem h
 have t := List.all_eq_true.1 (List.all_eq_true.1 (List.all_eq_true.1 dep_table _ (List.mem_range.2 h7)) l hm) i (List.mem_range.2 (by omega))
 unfold depOk at t
 simp only [Bool.and_eq_true, Bool.or_eq_true, decide_eq_true_eq] at t
 exact ⟨t.1.1, t.1.2, fun h1 h2 => by
  rcases t.2 with (q | q) | q
  ·omega
  ·exact absurd h2 q
  ·exact q⟩
theorem stL_eq (l m : List Int) (d : Nat) : ∀ (out : List Int) (i : Int), stL l m d out i = out ++ (List.range d).map fun t : Nat => stepOf l m (i + (t : Int)) := by
 induction d with
 | zero => intro out i; simp [stL]
 | succ d ih =>
  intro out i
  rw [stL, ih, List.range_succ_eq_map, List.map_cons, List.map_map, List.append_assoc, List.singleton_append]
  congr 2
  ·simp
  ·refine List.map_congr_left fun t _ => ?_
   show stepOf l m (i + 1 + (t : Int)) = stepOf l m (i + ((t + 1 : Nat) : Int))
   congr 1; omega
theorem stepsL_rd (l m : List Int) (k i : Nat) (h : i < k) (hk : k ≤ l.length) : rd ((stepsL l m).take k) (i : Int) = stepOf l m (i : Int) := by
 have hl : (stepsL l m).length = l.length := by unfold stepsL; rw [stL_length]; simp
 rw [rd_get _ i (by rw [List.length_take]; omega), List.getElem_take]
 unfold stepsL
 simp only [stL_eq, List.nil_append, List.getElem_map, List.getElem_range]
 congr 1; omega
def runS (l m : List Int) : Nat → List Int × List Int × Int
 | 0 => ([], [], 0)
 | i + 1 => ((ren (rawS (runS l m i).1 (runS l m i).2.1 (runS l m i).2.2 (stepOf l m (i : Int))).1 (rawS (runS l m i).1 (runS l m i).2.1 (runS l m i).2.2 (stepOf l m (i : Int))).2.1).1, (ren (rawS (runS l m i).1 (runS l m i).2.1 (runS l m i).2.2 (stepOf l m (i : Int))).1 (rawS (runS l m i).1 (runS l m i).2.1 (runS l m i).2.2 (stepOf l m (i : Int))).2.1).2, (rawS (runS l m i).1 (runS l m i).2.1 (runS l m i).2.2 (stepOf l m (i : Int))).2.2)
structure SInv (l m : List Int) (i : Nat) (u d : List Int) (c : Int) : Prop where
 good : goodB u d c = true
 ul : (u.length : Int) = dep l i
 dl : (d.length : Int) = dep m i
 cl : c ≤ cls l i
theorem good_nil : goodB [] [] 0 = true := by
 refine tf_iff.2 ⟨by simp, by simp, by decide, fun j h1 h2 => ?_, fun j h1 h2 => ?_, rfl, rfl, rfl⟩ <;> simp at h2 <;> omega
theorem rawS_lens (u d : List Int) (c a : Int) (m : mayS u d a = true) : ((rawS u d c a).1.length : Int) = u.length + (if 2 ≤ a then -1 else 1) ∧ ((rawS u d c a).2.1.length : Int) = d.length + (if a = 1 ∨ a = 3 then -1 else 1) ∧ (rawS u d c a).2.2 ≤ c + (if 2 ≤ a then 1 else 0) := by
 obtain ⟨⟨a0, a3⟩, m1, m2⟩ := of_decide_eq_true m
 unfold rawS
 have pu : 2 ≤ a → 0 < u.length := fun q => List.length_pos_iff.2 (m1 q)
 have pd : a = 1 ∨ a = 3 → 0 < d.length := fun q => List.length_pos_iff.2 (m2 q)
 have ar : a = 0 ∨ a = 1 ∨ a = 2 ∨ a = 3 := by omega
 rcases ar with rfl | rfl | rfl | rfl
 ·simp
 ·have := pd (.inl rfl); simp; omega
 ·have := pu (by decide); simp; omega
 ·have := pu (by decide); have := pd (.inr rfl)
  rw [if_neg (by decide), if_neg (by decide), if_neg (by decide)]
  simp only [swpL_len, List.length_take]
  refine ⟨?_, ?_, ?_⟩
  ·simp; omega
  ·simp; omega
  ·rw [if_pos (show (2 : Int) ≤ 3 by decide)]; split <;> omega
theorem may_step {l m : List Int} (hl : sysB l = true) (hm : sysB m = true) (he : l.length = m.length) {i : Nat} (hi : i < l.length) {u d : List Int} {c : Int} (h : SInv l m i u d c) : mayS u d (stepOf l m (i : Int)) = true := by
 have t1 := (dep_at hl i (by omega)).2.2 hi
 have t2 := (dep_at hm i (by omega)).2.2 (by omega)
 have h1 := h.ul
 have h2 := h.dl
 have nu : rd l (i : Int) < (i : Int) → u ≠ [] := fun q e => by have := t1 q; rw [e] at h1; simp at h1; omega
 have nd : rd m (i : Int) < (i : Int) → d ≠ [] := fun q e => by have := t2 q; rw [e] at h2; simp at h2; omega
 unfold mayS stepOf
 refine decide_eq_true ?_
 by_cases a1 : rd l (i : Int) < (i : Int) <;> by_cases a2 : rd m (i : Int) < (i : Int) <;> simp only [a1, a2, if_true, if_false]
 ·exact ⟨by decide, fun _ => nu a1, fun _ => nd a2⟩
 ·exact ⟨by decide, fun _ => nu a1, fun q => by omega⟩
 ·exact ⟨by decide, fun q => by omega, fun _ => nd a2⟩
 ·exact ⟨by decide, fun q => by omega, fun q => by omega⟩
theorem step_next {l m : List Int} (hl : sysB l = true) (hm : sysB m = true) (he : l.length = m.length) {i : Nat} (hi : i < l.length) {u d : List Int} {c : Int} (h : SInv l m i u d c) :
  ((rawS u d c (stepOf l m (i : Int))).1.length ≤ 6 ∧ (rawS u d c (stepOf l m (i : Int))).2.1.length ≤ 6 ∧ (rawS u d c (stepOf l m (i : Int))).2.2 ≤ 6) ∧
  SInv l m (i + 1) (ren (rawS u d c (stepOf l m (i : Int))).1 (rawS u d c (stepOf l m (i : Int))).2.1).1 (ren (rawS u d c (stepOf l m (i : Int))).1 (rawS u d c (stepOf l m (i : Int))).2.1).2 (rawS u d c (stepOf l m (i : Int))).2.2 := by
 have my := may_step hl hm he hi h
 obtain ⟨r1, r2, r3⟩ := raw_good h.good my
 obtain ⟨l1, l2, l3⟩ := rawS_lens u d c _ my
 have a1 := dep_at hl (i + 1) (by omega)
 have a2 := dep_at hm (i + 1) (by omega)
 have h1 := h.ul
 have h2 := h.dl
 have h3 := h.cl
 have d1 : dep l (i + 1) = dep l i + (if 2 ≤ stepOf l m (i : Int) then -1 else 1) := by
  show dep l i + (if rd l (i : Int) < (i : Int) then -1 else 1) = _
  unfold stepOf
  by_cases q1 : rd l (i : Int) < (i : Int) <;> by_cases q2 : rd m (i : Int) < (i : Int) <;> simp [q1, q2]
 have d2 : dep m (i + 1) = dep m i + (if stepOf l m (i : Int) = 1 ∨ stepOf l m (i : Int) = 3 then -1 else 1) := by
  show dep m i + (if rd m (i : Int) < (i : Int) then -1 else 1) = _
  unfold stepOf
  by_cases q1 : rd l (i : Int) < (i : Int) <;> by_cases q2 : rd m (i : Int) < (i : Int) <;> simp [q1, q2]
 have d3 : cls l (i + 1) = cls l i + (if 2 ≤ stepOf l m (i : Int) then 1 else 0) := by
  show cls l i + (if rd l (i : Int) < (i : Int) then 1 else 0) = _
  unfold stepOf
  by_cases q1 : rd l (i : Int) < (i : Int) <;> by_cases q2 : rd m (i : Int) < (i : Int) <;> simp [q1, q2]
 have sz : (rawS u d c (stepOf l m (i : Int))).1.length ≤ 6 ∧ (rawS u d c (stepOf l m (i : Int))).2.1.length ≤ 6 ∧ (rawS u d c (stepOf l m (i : Int))).2.2 ≤ 6 := by
  generalize rawS u d c (stepOf l m (i : Int)) = R at *
  refine ⟨?_, ?_, ?_⟩ <;> omega
 refine ⟨sz, ⟨?_, ?_, ?_, ?_⟩⟩
 ·rw [goodB_ren r1 r2 r3]; exact decide_eq_true sz
 ·rw [ren_eq]; simp only [List.length_map]; omega
 ·rw [ren_eq]; simp only [List.length_map]; omega
 ·omega
theorem run_inv {l m : List Int} (hl : sysB l = true) (hm : sysB m = true) (he : l.length = m.length) : ∀ i : Nat, i ≤ l.length → SInv l m i (runS l m i).1 (runS l m i).2.1 (runS l m i).2.2
 | 0, _ => ⟨good_nil, by simp [runS, dep], by simp [runS, dep], by simp [runS, cls]⟩
 | i + 1, h => (step_next hl hm he (by omega) (run_inv hl hm he i (by omega))).2
theorem specRun {l m : List Int} (hl : sysB l = true) (hm : sysB m = true) (he : l.length = m.length) (n : Nat) (hn : n ≤ l.length) (h12 : l.length ≤ 12) (e : Nat) :
  ∀ i : Nat, i + e = n → (∃ K, ∀ k, K ≤ k → spec_StateBehind.l0 k ((stepsL l m).take n) (n : Int) (i : Int) (runS l m i).1 (runS l m i).2.1 (runS l m i).2.2 = some (((runS l m n).1, (runS l m n).2.1, (runS l m n).2.2, true))) := by
 have hlen : ((stepsL l m).take n).length = n := by unfold stepsL; rw [List.length_take, stL_length]; simp; omega
 induction e with
 | zero =>
  intro i hi
  obtain rfl : i = n := by omega
  exact ev_rs 0 fun k _ => by rw [spec_StateBehind.l0, if_neg (by omega)]
 | succ e ih =>
  intro i hi
  obtain ⟨K1, ih⟩ := ih (i + 1) (by omega)
  have inv := run_inv hl hm he i (by omega)
  have my := may_step hl hm he (by omega) inv
  obtain ⟨K2, h2⟩ := stStep_may inv.good my
  have sz := (step_next hl hm he (by omega) inv).1
  refine ev_rs (K1 + K2) fun k hk => ?_
  rw [spec_StateBehind.l0, if_pos (by omega), if_pos (by omega), if_pos (by rw [hlen]; omega), stepsL_rd l m n i (by omega) hn, h2 k (by omega), Option.bind_some, w64 (by omega) (by omega)]
  have ih := ih k (by omega)
  rw [show (((i + 1 : Nat)) : Int) = (i : Int) + 1 by omega] at ih
  exact ih
theorem implRun {l m : List Int} (hl : sysB l = true) (hm : sysB m = true) (he : l.length = m.length) (n : Nat) (hn : n ≤ l.length) (h12 : l.length ≤ 12) (e : Nat) :
  ∀ i : Nat, i + e = n → (∃ K, ∀ k, K ≤ k → impl_StateBehind.l0 k ((stepsL l m).take n) (n : Int) (i : Int) (runS l m i).1 (runS l m i).2.1 (runS l m i).2.2 = some (((runS l m n).1, (runS l m n).2.1, (runS l m n).2.2, true))) := by
 have hlen : ((stepsL l m).take n).length = n := by unfold stepsL; rw [List.length_take, stL_length]; simp; omega
 induction e with
 | zero =>
  intro i hi
  obtain rfl : i = n := by omega
  exact ev_rs 0 fun k _ => by rw [impl_StateBehind.l0, if_neg (by omega)]
 | succ e ih =>
  intro i hi
  obtain ⟨K1, ih⟩ := ih (i + 1) (by omega)
  have inv := run_inv hl hm he i (by omega)
  have my := may_step hl hm he (by omega) inv
  obtain ⟨K2, h2⟩ := stepped_may inv.good my
  have sz := (step_next hl hm he (by omega) inv).1
  rw [show outS _ _ _ = _ from if_pos sz] at h2
  refine ev_rs (K1 + K2) fun k hk => ?_
  rw [impl_StateBehind.l0, if_pos (by omega), if_pos (by omega), if_pos (by rw [hlen]; omega), stepsL_rd l m n i (by omega) hn, h2 k (by omega), Option.bind_some, w64 (by omega) (by omega)]
  have ih := ih k (by omega)
  rw [show (((i + 1 : Nat)) : Int) = (i : Int) + 1 by omega] at ih
  exact ih
noncomputable def behR (l m : List Int) (a : Int) : List Int × List Int × Int × Bool := if pairB l m = true ∧ (0 ≤ a ∧ a ≤ l.length) then ((runS l m a.toNat).1, (runS l m a.toNat).2.1, (runS l m a.toNat).2.2, true) else ([], [], 0, false)
theorem pairB_three {l m : List Int} (h : pairB l m = true) : sysB l = true ∧ sysB m = true ∧ l.length = m.length ∧ l.length ≤ 12 := by
 unfold pairB at h
 rw [Bool.and_eq_true, Bool.and_eq_true, decide_eq_true_eq] at h
 refine ⟨h.1.1, h.1.2, h.2, ?_⟩
 have := of_table (P := fun l => decide (l.length ≤ 12)) (by decide +kernel) h.1.1
 exact of_decide_eq_true this
theorem behR_length (l m : List Int) (a : Int) : (behR l m a).1.length ≤ 6 ∧ (behR l m a).2.1.length ≤ 6 := by
 unfold behR
 split
 ·next h =>
  obtain ⟨hl, hm, he, _⟩ := pairB_three h.1
  exact goodB_len6 (run_inv hl hm he a.toNat (by omega)).good
 ·simp
theorem specBeh_any (l m : List Int) (a : Int) (hl : l.length ≤ 1048576) (hm : m.length ≤ 1048576) : (∃ K, ∀ k, K ≤ k → spec_StateBehind.f k l m a = some (behR l m a)) := by
 obtain ⟨K1, h1⟩ := mePair_any l m (by omega) (by omega)
 have no : (∃ K, ∀ k, K ≤ k → spec_StateBehind.j0 k a true l m = some (([], [], 0, false))) := ev_rs 0 fun k _ => by rw [spec_StateBehind.j0, if_pos rfl]
 obtain ⟨K2, h2⟩ := no
 by_cases g : pairB l m = true
 ·by_cases ha : 0 ≤ a ∧ a ≤ l.length
  ·obtain ⟨sl, sm, he, h12⟩ := pairB_three g
   obtain ⟨K3, h3⟩ := specSteps_any l m hl he
   obtain ⟨n, rfl⟩ := Int.eq_ofNat_of_zero_le ha.1
   obtain ⟨K4, h4⟩ := specRun sl sm he n (by omega) h12 n 0 (by omega)
   have hlen : (stepsL l m).length = l.length := by unfold stepsL; rw [stL_length]; simp
   have hl2 : ((stepsL l m).take n).length = n := by rw [List.length_take]; omega
   refine ⟨K1 + K3 + K4 + 1, fun k hk => ?_⟩
   obtain ⟨q, rfl⟩ : ∃ q, k = q + 1 := ⟨k - 1, by omega⟩
   unfold spec_StateBehind.f
   rw [h1 _ (by omega), Option.bind_some, if_pos g, l1In_any, Option.bind_some, decide_eq_true ha, spec_StateBehind.j0, if_neg (by decide), h3 q (by omega), Option.bind_some, if_pos (by omega), if_pos (by omega), Option.bind_some, Int.toNat_natCast, hl2]
   rw [show behR l m (n : Int) = ((runS l m n).1, (runS l m n).2.1, (runS l m n).2.2, true) from if_pos ⟨g, ha⟩]
   exact h4 q (by omega)
  ·refine ⟨K1 + K2, fun k hk => ?_⟩
   unfold spec_StateBehind.f
   rw [show behR l m a = ([], [], 0, false) from if_neg (fun q => ha q.2), h1 k (by omega), Option.bind_some, if_pos g, l1In_any, Option.bind_some, decide_eq_false ha]
   exact h2 k (by omega)
 ·refine ⟨K1 + K2, fun k hk => ?_⟩
  unfold spec_StateBehind.f
  rw [show behR l m a = ([], [], 0, false) from if_neg (fun q => g q.1), h1 k (by omega), Option.bind_some, if_neg g]
  exact h2 k (by omega)
theorem implBeh_any (l m : List Int) (a : Int) (hl : l.length ≤ 1048576) (hm : m.length ≤ 1048576) : (∃ K, ∀ k, K ≤ k → impl_StateBehind.f k l m a = some (behR l m a)) := by
 obtain ⟨K1, h1⟩ := IsPair_any l m (by omega) (by omega)
 have no : (∃ K, ∀ k, K ≤ k → impl_StateBehind.j0 k a true l m = some (([], [], 0, false))) := ev_rs 0 fun k _ => by rw [impl_StateBehind.j0, if_pos rfl]
 obtain ⟨K2, h2⟩ := no
 by_cases g : pairB l m = true
 ·by_cases ha : 0 ≤ a ∧ a ≤ l.length
  ·obtain ⟨sl, sm, he, h12⟩ := pairB_three g
   obtain ⟨K3, h3⟩ := implSteps_any l m hl he
   obtain ⟨n, rfl⟩ := Int.eq_ofNat_of_zero_le ha.1
   obtain ⟨K4, h4⟩ := implRun sl sm he n (by omega) h12 n 0 (by omega)
   have hlen : (stepsL l m).length = l.length := by unfold stepsL; rw [stL_length]; simp
   have hl2 : ((stepsL l m).take n).length = n := by rw [List.length_take]; omega
   have hs : impl_StartState.f = some (([] : List Int), ([] : List Int), (0 : Int)) := rfl
   refine ⟨K1 + K3 + K4 + 1, fun k hk => ?_⟩
   obtain ⟨q, rfl⟩ : ∃ q, k = q + 1 := ⟨k - 1, by omega⟩
   unfold impl_StateBehind.f
   rw [h1 _ (by omega), Option.bind_some, if_pos g, in_any, Option.bind_some, decide_eq_true ha, impl_StateBehind.j0, if_neg (by decide), hs, Option.bind_some, h3 q (by omega), Option.bind_some, if_pos (by omega), if_pos (by omega), Option.bind_some, Int.toNat_natCast, hl2]
   rw [show behR l m (n : Int) = ((runS l m n).1, (runS l m n).2.1, (runS l m n).2.2, true) from if_pos ⟨g, ha⟩]
   exact h4 q (by omega)
  ·refine ⟨K1 + K2, fun k hk => ?_⟩
   unfold impl_StateBehind.f
   rw [show behR l m a = ([], [], 0, false) from if_neg (fun q => ha q.2), h1 k (by omega), Option.bind_some, if_pos g, in_any, Option.bind_some, decide_eq_false ha]
   exact h2 k (by omega)
 ·refine ⟨K1 + K2, fun k hk => ?_⟩
  unfold impl_StateBehind.f
  rw [show behR l m a = ([], [], 0, false) from if_neg (fun q => g q.1), h1 k (by omega), Option.bind_some, if_neg g]
  exact h2 k (by omega)
theorem FnExactStateBehind : laws_FnExactStateBehind.Pure := by
 intro l m a hx_l _ _ hx_m _ _ _
 unfold maxLen at hx_l hx_m
 obtain ⟨r_l, hr_l, hc_l⟩ := szMeander_at l m 1048576 (by omega) (by omega) (by omega) (by omega)
 by_cases h_l : r_l < 0
 ·exact ⟨0, by simp [laws_FnExactStateBehind.f, hr_l, h_l]⟩
 ·skip
  obtain ⟨KTl, t_l⟩ := toMeander_any l m (by omega) (by omega)
  obtain ⟨KEl, e_l⟩ := eqMeander_any l m l m (by omega) (by omega)
  obtain ⟨y_l, z_l, KMl, m_l⟩ := markM1_any l m (1) (by omega) (by omega)
  obtain ⟨KI, hI⟩ := implBeh_any l m a (by omega) (by omega)
  obtain ⟨KS, hS⟩ := specBeh_any l m a (by omega) (by omega)
  have hp1 : ¬ (1 + l.length + m.length : Int) < 0 := by omega
  have hR := behR_length l m a
  obtain ⟨KR, hE⟩ := eqState_any (behR l m a).1 (behR l m a).2.1 (behR l m a).2.2.1 (behR l m a).1 (behR l m a).2.1 (behR l m a).2.2.1 (by omega) (by omega)
  obtain ⟨zz, zu, ⟨KZ, hM⟩, _, _, ⟨KH, hH⟩⟩ := markState_any (behR l m a).1 (behR l m a).2.1 (behR l m a).2.2.1 1 (by omega) (by omega)
  have hp2 : ¬ (1 : Int) + (behR l m a).1.length + (behR l m a).2.1.length < 0 := by omega
  refine ⟨KTl + KEl + KMl + KI + KS + KR + KZ + KH + 6, ?_⟩
  simp (disch := omega) only [laws_FnExactStateBehind.f, Bool.false_eq_true, if_false, if_neg, hr_l, t_l, e_l, m_l, hI, hS, hp1, hp2, hE, hM, hH, Option.bind_some, decide_true, if_true, bne_self_eq_false, and_self]
  simp (disch := omega) only [j0, Bool.false_eq_true, if_false, if_neg, hr_l, t_l, e_l, m_l, hI, hS, hp1, hp2, hE, hM, hH, Option.bind_some, decide_true, if_true, bne_self_eq_false, and_self]
  simp (disch := omega) only [j1, Bool.false_eq_true, if_false, if_neg, hr_l, t_l, e_l, m_l, hI, hS, hp1, hp2, hE, hM, hH, Option.bind_some, decide_true, if_true, bne_self_eq_false, and_self]
  simp (disch := omega) only [j2, Bool.false_eq_true, if_false, if_neg, hr_l, t_l, e_l, m_l, hI, hS, hp1, hp2, hE, hM, hH, Option.bind_some, decide_true, if_true, bne_self_eq_false, and_self]
end Go.Proofs.Ytmiliifbkgaalaa.Pure
