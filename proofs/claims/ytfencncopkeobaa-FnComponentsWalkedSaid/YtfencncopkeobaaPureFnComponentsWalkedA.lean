/- Words and tables for the law FnComponentsWalked. -/
import Derived.Test.YtfencncopkeobaaQFnComponentsWalkedx9
import Derived.Test.YtfencncopkeobaaMyPl
namespace Go.Proofs.Ytfencncopkeobaa.Pure
open Go.RowKit Go.Proofs.Ytfencncopkeobaa.QFnComponentsWalked Go.Proofs.YtfencncopkeobaaW.PrintWords Go.Proofs.YtfencncopkeobaaW.PrintLast
open laws_FnComponentsWalked
set_option linter.unusedVariables false
set_option linter.unusedSimpArgs false
theorem w64 {x : Int} (h1 : -9223372036854775808 ≤ x) (h2 : x < 9223372036854775808) : wrap64 x = x := by unfold wrap64; omega
theorem ev_rs {α : Type} {g : Nat → Option α} {r : α} (K : Nat) (h : ∀ m, K ≤ m → g (m + 1) = some r) : ∃ K, ∀ k, K ≤ k → g k = some r := by
 refine ⟨K + 1, fun k hk => ?_⟩
 obtain ⟨m, rfl⟩ : ∃ m, k = m + 1 := ⟨k - 1, by omega⟩
 exact h m (by omega)
noncomputable def tf (P : Prop) : Bool := @decide P (Classical.propDecidable P)
theorem tf_t {P : Prop} (h : P) : tf P = true := by unfold tf; simp [h]
theorem tf_f {P : Prop} (h : ¬ P) : tf P = false := by unfold tf; simp [h]
theorem tf_iff {P : Prop} : tf P = true ↔ P := by unfold tf; simp
theorem tf_c {P Q : Prop} (h : P ↔ Q) : tf P = tf Q := by rw [propext h]
theorem rd_set (l : List Int) (i j v : Int) (hi : 0 ≤ i) (hl : i < l.length) (hj : 0 ≤ j) : rd (l.set i.toNat v) j = if j = i then v else rd l j := by
 unfold rd
 simp only [List.getD_eq_getElem?_getD, List.getElem?_set]
 by_cases e : j = i
 ·subst e
  rw [if_pos rfl, if_pos rfl, if_pos (by omega)]; rfl
 ·rw [if_neg (by omega), if_neg e]
theorem rd_get (l : List Int) (i : Nat) (h : i < l.length) : rd l i = l[i] := by
 unfold rd
 rw [Int.toNat_natCast, List.getD_eq_getElem?_getD, List.getElem?_eq_getElem h]; rfl
theorem rd_ext {a b : List Int} (hl : a.length = b.length) (h : ∀ j : Int, 0 ≤ j → j < a.length → rd a j = rd b j) : a = b := by
 refine List.ext_getElem hl fun i h1 h2 => ?_
 have := h i (by omega) (by omega)
 rwa [rd_get a i h1, rd_get b i h2] at this
theorem rd_mem (l : List Int) (i : Int) (h0 : 0 ≤ i) (h : i < l.length) : rd l i ∈ l := by
 have e := rd_get l i.toNat (by omega)
 rw [show ((i.toNat : Nat) : Int) = i by omega] at e
 rw [e]; exact List.getElem_mem _
theorem in_any (a lo hi : Int) : impl_in.f a lo hi = some (decide (lo ≤ a ∧ a ≤ hi)) := by
 unfold impl_in.f
 by_cases h : lo ≤ a <;> simp [h]
theorem l1In_any (a lo hi : Int) : spec_l1In.f a lo hi = some (decide (lo ≤ a ∧ a ≤ hi)) := by
 unfold spec_l1In.f
 by_cases h : lo ≤ a
 ·rw [if_pos h]; simp [h]
 ·rw [if_neg h]; simp [h]
def AllIn (n : Int) (q : Int → Int) (i : Int) : Prop := ∀ j : Int, i ≤ j → j < n → 0 ≤ q j ∧ q j < n ∧ q j ≠ j ∧ q (q j) = j
def NoCross (n : Int) (q : Int → Int) (i : Int) : Prop := ∀ a b, i ≤ a → a < n → a < b → b < q a → a ≤ q b ∧ q b ≤ q a
theorem sys_of {n : Int} {q : Int → Int} : Pl.Sys n q ↔ AllIn n q 0 ∧ NoCross n q 0 :=
 ⟨fun s => ⟨fun j h0 h1 => ⟨s.lo j h0 h1, s.hi j h0 h1, s.ne j h0 h1, s.inv j h0 h1⟩, s.cr⟩,
 fun ⟨h, c⟩ => ⟨fun j h0 h1 => (h j h0 h1).1, fun j h0 h1 => (h j h0 h1).2.1, fun j h0 h1 => (h j h0 h1).2.2.1, fun j h0 h1 => (h j h0 h1).2.2.2, c⟩⟩
theorem isSystem_l2 (l : List Int) (hn : l.length < 4611686018427387904) (a : Int) (ha : 0 ≤ a) (hal : a < l.length) (hA : AllIn l.length (rd l) 0)
  (h1 : (∃ K, ∀ k, K ≤ k → impl_isSystem.l1 k l l l.length (a + 1) = some (tf (NoCross l.length (rd l) (a + 1))))) (d : Nat) :
  ∀ b : Int, a < b → rd l a - b ≤ d → (∃ K, ∀ k, K ≤ k → impl_isSystem.l2 k l a (rd l a) b l l.length a = some (tf ((∀ b' : Int, b ≤ b' → b' < rd l a → a ≤ rd l b' ∧ rd l b' ≤ rd l a) ∧ NoCross l.length (rd l) (a + 1)))) := by
 have hq := hA a ha hal
 obtain ⟨K1, h1⟩ := h1
 have out : ∀ b : Int, a < b → ¬ b < rd l a → (∃ K, ∀ k, K ≤ k → impl_isSystem.l2 k l a (rd l a) b l l.length a = some (tf ((∀ b' : Int, b ≤ b' → b' < rd l a → a ≤ rd l b' ∧ rd l b' ≤ rd l a) ∧ NoCross l.length (rd l) (a + 1)))) := by
  intro b hb hlt
  refine ev_rs K1 fun m hm => ?_
  simp (disch := omega) only [impl_isSystem.l2, if_neg, w64]
  rw [h1 m hm]
  congr 1
  exact tf_c ⟨fun h => ⟨fun b' _ _ => by omega, h⟩, fun h => h.2⟩
 induction d with
 | zero =>
  intro b hb hd
  exact out b hb (by omega)
 | succ d ih =>
  intro b hb hd
  by_cases hlt : b < rd l a
  ·obtain ⟨K, ih⟩ := ih (b + 1) (by omega) (by omega)
   by_cases he : a ≤ rd l b ∧ rd l b ≤ rd l a
   ·refine ev_rs K fun m hm => ?_
    simp (disch := omega) only [impl_isSystem.l2, if_pos, w64, in_any, Option.bind_some]
    rw [decide_eq_true he]
    simp only [if_true]
    rw [ih m hm]
    congr 1
    refine tf_c ⟨fun h => ⟨fun b' h2 h3 => ?_, h.2⟩, fun h => ⟨fun b' h2 h3 => h.1 b' (by omega) h3, h.2⟩⟩
    by_cases e : b' = b
    ·rw [e]; exact he
    ·exact h.1 b' (by omega) h3
   ·refine ev_rs 0 fun m hm => ?_
    simp (disch := omega) only [impl_isSystem.l2, if_pos, in_any, Option.bind_some]
    rw [decide_eq_false he, tf_f]
    ·simp
    ·exact fun h => he (h.1 b (Int.le_refl _) hlt)
  ·exact out b hb hlt
theorem isSystem_l1 (l : List Int) (hn : l.length < 4611686018427387904) (hA : AllIn l.length (rd l) 0) (d : Nat) : ∀ a : Int, 0 ≤ a → (l.length : Int) - a ≤ d →
  (∃ K, ∀ k, K ≤ k → impl_isSystem.l1 k l l l.length a = some (tf (NoCross l.length (rd l) a))) := by
 have out : ∀ a : Int, ¬ a < l.length → (∃ K, ∀ k, K ≤ k → impl_isSystem.l1 k l l l.length a = some (tf (NoCross l.length (rd l) a))) := by
  intro a hlt
  refine ev_rs 0 fun m hm => ?_
  simp (disch := omega) only [impl_isSystem.l1, if_neg]
  rw [tf_t]
  intro a' b h1 h2; omega
 induction d with
 | zero => intro a h0 hd; exact out a (by omega)
 | succ d ih =>
  intro a h0 hd
  by_cases hlt : a < (l.length : Int)
  ·have h1 := ih (a + 1) (by omega) (by omega)
   have hq := hA a h0 hlt
   obtain ⟨K, h2⟩ := isSystem_l2 l hn a h0 hlt hA h1 (rd l a - (a + 1)).toNat (a + 1) (by omega) (by omega)
   refine ev_rs K fun m hm => ?_
   simp (disch := omega) only [impl_isSystem.l1, if_pos, w64]
   rw [h2 m hm]
   congr 1
   refine tf_c ⟨fun h a' b h3 h4 h5 h6 => ?_, fun h => ⟨fun b' h3 h4 => h a b' (Int.le_refl _) hlt (by omega) h4, fun a' b h3 h4 h5 h6 => h a' b (by omega) h4 h5 h6⟩⟩
   by_cases e : a' = a
   ·subst e; exact h.1 b (by omega) h6
   ·exact h.2 a' b (by omega) h4 h5 h6
  ·exact out a hlt
theorem isSystem_l0 (l : List Int) (hn : l.length < 4611686018427387904) (d : Nat) : ∀ i : Int, 0 ≤ i → (l.length : Int) - i ≤ d → (∀ j : Int, 0 ≤ j → j < i → 0 ≤ rd l j ∧ rd l j < l.length ∧ rd l j ≠ j ∧ rd l (rd l j) = j) →
  (∃ K, ∀ k, K ≤ k → impl_isSystem.l0 k l l l.length i = some (tf (AllIn l.length (rd l) i ∧ NoCross l.length (rd l) 0))) := by
 have out : ∀ i : Int, 0 ≤ i → ¬ i < l.length → (∀ j : Int, 0 ≤ j → j < i → 0 ≤ rd l j ∧ rd l j < l.length ∧ rd l j ≠ j ∧ rd l (rd l j) = j) → (∃ K, ∀ k, K ≤ k → impl_isSystem.l0 k l l l.length i = some (tf (AllIn l.length (rd l) i ∧ NoCross l.length (rd l) 0))) := by
  intro i h0 hlt hp
  obtain ⟨K, h1⟩ := isSystem_l1 l hn (fun j h1 h2 => hp j h1 (by omega)) l.length 0 (by omega) (by omega)
  refine ev_rs K fun m hm => ?_
  simp (disch := omega) only [impl_isSystem.l0, if_neg]
  rw [h1 m hm]
  congr 1
  exact tf_c ⟨fun h => ⟨fun j _ _ => by omega, h⟩, fun h => h.2⟩
 induction d with
 | zero => intro i h0 hd hp; exact out i h0 (by omega) hp
 | succ d ih =>
  intro i h0 hd hp
  by_cases hlt : i < (l.length : Int)
  ·by_cases hr : 0 ≤ rd l i ∧ rd l i ≤ (l.length : Int) - 1
   ·by_cases hs : rd l i = i
    ·refine ev_rs 0 fun m hm => ?_
     simp (disch := omega) only [impl_isSystem.l0, if_pos, w64, in_any, Option.bind_some]
     rw [decide_eq_true hr, tf_f]
     ·simp [hs]
     ·exact fun h => (h.1 i (Int.le_refl _) hlt).2.2.1 hs
    ·by_cases hi : rd l (rd l i) = i
     ·obtain ⟨K, ih⟩ := ih (i + 1) (by omega) (by omega) (fun j h1 h2 => by
       by_cases e : j = i
       ·subst e; exact ⟨by omega, by omega, hs, hi⟩
       ·exact hp j h1 (by omega))
      refine ev_rs K fun m hm => ?_
      simp (disch := omega) only [impl_isSystem.l0, if_pos, if_neg, w64, in_any, Option.bind_some]
      rw [decide_eq_true hr, if_pos rfl, ih m hm]
      congr 1
      refine tf_c ⟨fun h => ⟨fun j h1 h2 => ?_, h.2⟩, fun h => ⟨fun j h1 h2 => h.1 j (by omega) h2, h.2⟩⟩
      by_cases e : j = i
      ·subst e; exact ⟨by omega, by omega, hs, hi⟩
      ·exact h.1 j (by omega) h2
     ·refine ev_rs 0 fun m hm => ?_
      simp (disch := omega) only [impl_isSystem.l0, if_pos, if_neg, w64, in_any, Option.bind_some]
      rw [decide_eq_true hr, tf_f]
      ·simp
      ·exact fun h => hi (h.1 i (Int.le_refl _) hlt).2.2.2
   ·refine ev_rs 0 fun m hm => ?_
    simp (disch := omega) only [impl_isSystem.l0, if_pos, w64, in_any, Option.bind_some]
    rw [decide_eq_false hr, tf_f]
    ·simp
    ·exact fun h => hr (by have := h.1 i (Int.le_refl _) hlt; omega)
  ·exact out i h0 hlt hp
noncomputable def sysB (l : List Int) : Bool := tf (l.length ≤ 12 ∧ Pl.Sys l.length (rd l))
theorem isSystem_any (l : List Int) (hn : l.length < 4611686018427387904) : (∃ K, ∀ k, K ≤ k → impl_isSystem.f k l = some (tf (Pl.Sys l.length (rd l)))) := by
 obtain ⟨K, h⟩ := isSystem_l0 l hn l.length 0 (by omega) (by omega) (fun j _ _ => by omega)
 refine ⟨K, fun k hk => ?_⟩
 unfold impl_isSystem.f
 rw [h k hk]
 exact congrArg _ (tf_c sys_of.symm)
theorem IsSystem_any (l : List Int) (hn : l.length < 4611686018427387904) : (∃ K, ∀ k, K ≤ k → impl_IsSystem.f k l = some (sysB l)) := by
 obtain ⟨K, h⟩ := isSystem_any l hn
 refine ⟨K, fun k hk => ?_⟩
 unfold impl_IsSystem.f sysB
 by_cases h12 : (l.length : Int) ≤ 12
 ·rw [if_pos h12, h k hk]
  exact congrArg _ (tf_c ⟨fun h => ⟨by omega, h⟩, fun h => h.2⟩)
 ·rw [if_neg h12, tf_f]
  exact fun h => h12 (by omega)
theorem l1All_l (l : List Int) (hn : l.length < 4611686018427387904) (lo hi : Int) (d : Nat) : ∀ i : Int, 0 ≤ i → (l.length : Int) - i ≤ d →
  (∃ K, ∀ k, K ≤ k → spec_l1All.l0 k lo hi l l.length i = some (tf (∀ j : Int, i ≤ j → j < l.length → lo ≤ rd l j ∧ rd l j ≤ hi))) := by
 have out : ∀ i : Int, ¬ i < l.length → (∃ K, ∀ k, K ≤ k → spec_l1All.l0 k lo hi l l.length i = some (tf (∀ j : Int, i ≤ j → j < l.length → lo ≤ rd l j ∧ rd l j ≤ hi))) := by
  intro i hlt
  refine ev_rs 0 fun m hm => ?_
  simp (disch := omega) only [spec_l1All.l0, if_neg]
  rw [tf_t]
  intro j h1 h2; omega
 induction d with
 | zero => intro i h0 hd; exact out i (by omega)
 | succ d ih =>
  intro i h0 hd
  by_cases hlt : i < (l.length : Int)
  ·obtain ⟨K, ih⟩ := ih (i + 1) (by omega) (by omega)
   by_cases he : lo ≤ rd l i ∧ rd l i ≤ hi
   ·refine ev_rs K fun m hm => ?_
    simp (disch := omega) only [spec_l1All.l0, if_pos, w64, l1In_any, Option.bind_some]
    rw [decide_eq_true he, if_pos rfl, ih m hm]
    congr 1
    refine tf_c ⟨fun h j h1 h2 => ?_, fun h j h1 h2 => h j (by omega) h2⟩
    by_cases e : j = i
    ·rw [e]; exact he
    ·exact h j (by omega) h2
   ·refine ev_rs 0 fun m hm => ?_
    simp (disch := omega) only [spec_l1All.l0, if_pos, l1In_any, Option.bind_some]
    rw [decide_eq_false he, tf_f]
    ·simp
    ·exact fun h => he (h i (Int.le_refl _) hlt)
  ·exact out i hlt
theorem l1All_any (l : List Int) (hn : l.length < 4611686018427387904) (lo hi : Int) : (∃ K, ∀ k, K ≤ k → spec_l1All.f k l lo hi = some (tf (∀ j : Int, 0 ≤ j → j < l.length → lo ≤ rd l j ∧ rd l j ≤ hi))) :=
 l1All_l l hn lo hi l.length 0 (by omega) (by omega)
theorem ahGood_l (l : List Int) (hn : l.length ≤ 12) (hR : ∀ j : Int, 0 ≤ j → j < l.length → 0 ≤ rd l j ∧ rd l j ≤ (l.length : Int) - 1) (d : Nat) : ∀ (i : Int) (op : List Int), 0 ≤ i → i ≤ l.length → (l.length : Int) - i ≤ d → (op.length : Int) ≤ i →
  Pl.Ideal (rd l) i op ∨ (Pl.Doomed l.length (rd l) i op ∧ ¬ Pl.Sys l.length (rd l)) →
  (∃ K, ∀ k, K ≤ k → spec_ahGood.l0 k l op l l.length i = some (tf (Pl.Sys l.length (rd l)))) := by
 have out : ∀ (i : Int) (op : List Int), i ≤ l.length → ¬ i < l.length → Pl.Ideal (rd l) i op ∨ (Pl.Doomed l.length (rd l) i op ∧ ¬ Pl.Sys l.length (rd l)) →
  (∃ K, ∀ k, K ≤ k → spec_ahGood.l0 k l op l l.length i = some (tf (Pl.Sys l.length (rd l)))) := by
  intro i op hi hlt h
  rcases h with h | h
  ·have e : i = l.length := by omega
   subst e
   refine ev_rs 0 fun m hm => ?_
   simp (disch := omega) only [spec_ahGood.l0, if_neg]
   rw [tf_t (h.finish (fun j h0 h1 => (hR j h0 h1).1) (fun j h0 h1 => by have := hR j h0 h1; omega))]
  ·have := h.1.lt; omega
 induction d with
 | zero => intro i op h0 hi hd hop h; exact out i op hi (by omega) h
 | succ d ih =>
  intro i op h0 hi hd hop h
  by_cases hlt : i < (l.length : Int)
  ·have hr := hR i h0 hlt
   by_cases hgt : rd l i > i
   ·by_cases he : rd l (rd l i) = i
    ·-- an arch begins
     obtain ⟨K, ih⟩ := ih (i + 1) (i :: op) (by omega) (by omega) (by omega) (by simp; omega) (by
      rcases h with h | h
      ·exact .inl (h.push h0 hgt he)
      ·exact .inr ⟨h.1.push hgt, h.2⟩)
     refine ev_rs (K + 1) fun m hm => ?_
     obtain ⟨m, rfl⟩ : ∃ m', m = m' + 1 := ⟨m - 1, by omega⟩
     have hb : (rd l (rd l i) == i) = true := by simp [he]
     simp (disch := omega) only [spec_ahGood.l0, if_pos, w64]
     rw [hb]
     simp only [spec_ahGood.j2, if_true, Option.bind_some]
     rw [if_pos (by simp; omega), w64 (by omega) (by omega)]
     exact ih m (by omega)
    ·have hb : (rd l (rd l i) == i) = false := by simp [he]
     refine ev_rs 1 fun m hm => ?_
     obtain ⟨m, rfl⟩ : ∃ m', m = m' + 1 := ⟨m - 1, by omega⟩
     simp (disch := omega) only [spec_ahGood.l0, if_pos, w64]
     rw [hb, tf_f (Pl.Ideal.fail_push he h0 hlt)]
     simp (disch := omega) only [spec_ahGood.j2, Bool.false_eq_true, if_false, if_neg]
   ·by_cases hs : rd l i = i
    ·refine ev_rs 1 fun m hm => ?_
     obtain ⟨m, rfl⟩ : ∃ m', m = m' + 1 := ⟨m - 1, by omega⟩
     simp (disch := omega) only [spec_ahGood.l0, if_pos, if_neg, w64]
     rw [tf_f (Pl.Ideal.fail_self hs h0 hlt)]
     simp (disch := omega) only [spec_ahGood.j2, Bool.false_eq_true, if_false, if_neg]
    ·have hls : rd l i < i := by omega
     have stop : op.head? ≠ some (rd l i) → ¬ Pl.Sys l.length (rd l) := fun hh => by
      rcases h with h | h
      ·exact h.fail_pop h0 hlt hls hh
      ·exact h.2
     cases op with
     | nil =>
      refine ev_rs 1 fun m hm => ?_
      obtain ⟨m, rfl⟩ : ∃ m', m = m' + 1 := ⟨m - 1, by omega⟩
      simp (disch := omega) only [spec_ahGood.l0, if_pos, if_neg, w64]
      rw [tf_f (stop (by simp))]
      simp (disch := omega) only [spec_ahGood.j2, Bool.false_eq_true, if_false, if_pos]
      simp
     | cons b t =>
      have hd0 : rd (b :: t) 0 = b := rfl
      by_cases hbt : b = rd l i
      ·obtain ⟨K, ih⟩ := ih (i + 1) t (by omega) (by omega) (by omega) (by simp at hop; omega) (by
        rcases h with h | h
        ·by_cases he : rd l b = i
         ·exact .inl (h.pop h0 hbt.symm (by omega) he (fun b h1 h2 => (hR b h1 (by omega)).1))
         ·refine .inr ⟨h.doom h0 hbt.symm (by omega) he ?_, ?_⟩
          ·have := (hR b (by omega) (by omega)).2; omega
          ·intro s
           have := s.inv i h0 hlt
           rw [← hbt] at this; exact he this
        ·exact .inr ⟨h.1.pop hbt.symm, h.2⟩)
       refine ev_rs (K + 1) fun m hm => ?_
       obtain ⟨m, rfl⟩ : ∃ m', m = m' + 1 := ⟨m - 1, by omega⟩
       simp (disch := omega) only [spec_ahGood.l0, if_pos, if_neg, w64]
       simp only [spec_ahGood.j2, Bool.false_eq_true, if_false]
       rw [if_pos hls, if_pos (by simp), if_pos (by simp), hd0, if_pos hbt, if_pos (by simp; omega), w64 (by omega) (by omega)]
       exact ih m (by omega)
      ·refine ev_rs 1 fun m hm => ?_
       obtain ⟨m, rfl⟩ : ∃ m', m = m' + 1 := ⟨m - 1, by omega⟩
       simp (disch := omega) only [spec_ahGood.l0, if_pos, if_neg, w64]
       simp only [spec_ahGood.j2, Bool.false_eq_true, if_false]
       rw [if_pos hls, if_pos (by simp), if_pos (by simp), hd0, if_neg hbt, tf_f (stop (by simpa using hbt))]
  ·exact out i op hi hlt h
theorem ahGood_any (l : List Int) (hn : l.length < 4611686018427387904) : (∃ K, ∀ k, K ≤ k → spec_ahGood.f k l = some (sysB l)) := by
 unfold sysB
 by_cases h2 : (l.length : Int) % 2 = 1
 ·refine ev_rs 0 fun m hm => ?_
  unfold spec_ahGood.f
  rw [if_pos h2, tf_f]
  ·simp [spec_ahGood.j0]
  ·intro h
   have := h.2.even (by omega)
   omega
 ·by_cases h12 : (l.length : Int) > 12
  ·refine ev_rs 0 fun m hm => ?_
   unfold spec_ahGood.f
   rw [if_neg h2, if_pos h12, tf_f]
   ·simp [spec_ahGood.j0]
   ·intro h; omega
  ·obtain ⟨K, h⟩ := l1All_any l hn 0 ((l.length : Int) - 1)
   by_cases hR : ∀ j : Int, 0 ≤ j → j < (l.length : Int) → 0 ≤ rd l j ∧ rd l j ≤ (l.length : Int) - 1
   ·obtain ⟨K2, h3⟩ := ahGood_l l (by omega) hR l.length 0 [] (by omega) (by omega) (by omega) (by simp) (.inl (.start _))
    refine ev_rs (K + K2) fun m hm => ?_
    unfold spec_ahGood.f
    rw [if_neg h2, if_neg h12, w64 (by omega) (by omega), h (m + 1) (by omega), tf_t hR]
    simp only [Option.bind_some, Bool.not_true, spec_ahGood.j0, Bool.false_eq_true, if_false]
    rw [h3 m (by omega)]
    exact congrArg _ (tf_c ⟨fun h => ⟨by omega, h⟩, fun h => h.2⟩)
   ·refine ev_rs K fun m hm => ?_
    unfold spec_ahGood.f
    rw [if_neg h2, if_neg h12, w64 (by omega) (by omega), h (m + 1) (by omega), tf_f hR, tf_f]
    ·simp [spec_ahGood.j0]
    ·intro s
     exact hR fun j h0 h1 => ⟨s.2.lo j h0 h1, by have := s.2.hi j h0 h1; omega⟩
theorem sysB_mem {l : List Int} (h : sysB l = true) : l.length / 2 < 7 ∧ l ∈ Pl.sysList (l.length / 2) := by
 have := tf_iff.1 h
 exact ⟨by omega, Pl.Sys.mem this.2 this.1⟩
theorem of_table {P : List Int → Bool} (h : ((List.range 7).all fun n => (Pl.sysList n).all P) = true) {l : List Int} (hl : sysB l = true) : P l = true := by
 obtain ⟨h7, hm⟩ := sysB_mem hl
 exact List.all_eq_true.1 (List.all_eq_true.1 h _ (List.mem_range.2 h7)) _ hm
theorem all_chunks {α : Type} (P : α → Bool) (c : Nat) (m : Nat) : ∀ l : List α, l.length ≤ c * m → (∀ i, i < m → ((l.drop (c * i)).take c).all P = true) → l.all P = true := by
 induction m with
 | zero =>
  intro l hl _
  have e : l = [] := List.eq_nil_of_length_eq_zero (by omega)
  subst e; rfl
 | succ m ih =>
  intro l hl h
  rw [← List.take_append_drop c l, List.all_append, Bool.and_eq_true]
  refine ⟨?_, ih _ (by rw [List.length_drop, Nat.mul_succ] at *; omega) fun i hi => ?_⟩
  ·have := h 0 (by omega)
   simpa using this
  ·have := h (i + 1) (by omega)
   rw [List.drop_drop]
   rw [show c * (i + 1) = c + c * i by rw [Nat.mul_succ, Nat.add_comm]] at this
   exact this
theorem len6 : (Pl.sysList 6).length = 132 := by decide +kernel
noncomputable def pairB (l m : List Int) : Bool := sysB l && sysB m && decide (l.length = m.length)
theorem IsPair_any (l m : List Int) (hl : l.length < 4611686018427387904) (hm : m.length < 4611686018427387904) : (∃ K, ∀ k, K ≤ k → impl_IsPair.f k l m = some (pairB l m)) := by
 obtain ⟨K1, h1⟩ := IsSystem_any l hl
 obtain ⟨K2, h2⟩ := IsSystem_any m hm
 refine ⟨K1 + K2, fun k hk => ?_⟩
 simp (disch := omega) only [impl_IsPair.f, h1, h2, Option.bind_some, pairB]
 cases sysB l <;> cases sysB m <;> simp
 by_cases e : l.length = m.length
 ·simp [e]
 ·simp [e]; omega
theorem mePair_any (l m : List Int) (hl : l.length < 4611686018427387904) (hm : m.length < 4611686018427387904) : (∃ K, ∀ k, K ≤ k → spec_mePair.f k l m = some (pairB l m)) := by
 obtain ⟨K1, h1⟩ := ahGood_any l hl
 obtain ⟨K2, h2⟩ := ahGood_any m hm
 refine ⟨K1 + K2, fun k hk => ?_⟩
 simp (disch := omega) only [spec_mePair.f, h1, h2, Option.bind_some, pairB]
 cases sysB l <;> cases sysB m <;> simp
 by_cases e : l.length = m.length
 ·simp [e]
 ·simp [e]; omega
theorem pigeon (n : Nat) : ∀ f : Nat → Int, (∀ k, k ≤ n → 0 ≤ f k ∧ f k < n) → ∃ a b, a < b ∧ b ≤ n ∧ f a = f b := by
 induction n with
 | zero => intro f h; have := h 0 (by omega); omega
 | succ n ih =>
  intro f h
  by_cases hex : ∃ k, k ≤ n ∧ f k = f (n + 1)
  ·obtain ⟨k, hk, e⟩ := hex
   exact ⟨k, n + 1, by omega, by omega, e⟩
  ·obtain ⟨a, b, hab, hb, e⟩ := ih (fun k => if f k = n then f (n + 1) else f k) (fun k hk => by
    have h1 := h k (by omega)
    have h2 := h (n + 1) (by omega)
    have h3 : f k ≠ f (n + 1) := fun e => hex ⟨k, hk, e⟩
    split <;> omega)
   by_cases e1 : f a = n <;> by_cases e2 : f b = n
   ·exact ⟨a, b, hab, by omega, by omega⟩
   ·rw [if_pos e1, if_neg e2] at e
    exact absurd ⟨b, hb, e.symm⟩ hex
   ·rw [if_neg e1, if_pos e2] at e
    exact absurd ⟨a, by omega, e⟩ hex
   ·rw [if_neg e1, if_neg e2] at e
    exact ⟨a, b, hab, by omega, e⟩
def steps (s : Int → Int) : Nat → Int → Int
 | 0, x => x
 | m + 1, x => steps s m (s x)
theorem steps_in {s : Int → Int} {n : Nat} (h : ∀ x : Int, 0 ≤ x → x < n → 0 ≤ s x ∧ s x < n) (m : Nat) : ∀ x : Int, 0 ≤ x → x < n → 0 ≤ steps s m x ∧ steps s m x < n := by
 induction m with
 | zero => intro x a b; exact ⟨a, b⟩
 | succ m ih => intro x a b; have := h x a b; exact ih _ this.1 this.2
theorem steps_back {s : Int → Int} {n : Nat} (h : ∀ x : Int, 0 ≤ x → x < n → 0 ≤ s x ∧ s x < n) (inj : ∀ x y : Int, 0 ≤ x → x < n → 0 ≤ y → y < n → s x = s y → x = y) (a : Nat) :
  ∀ x y : Int, 0 ≤ x → x < n → 0 ≤ y → y < n → steps s a x = steps s a y → x = y := by
 induction a with
 | zero => intro x y _ _ _ _ e; exact e
 | succ a ih =>
  intro x y x0 x1 y0 y1 e
  have hx := h x x0 x1
  have hy := h y y0 y1
  exact inj x y x0 x1 y0 y1 (ih _ _ hx.1 hx.2 hy.1 hy.2 e)
theorem steps_add (s : Int → Int) (a b : Nat) : ∀ x, steps s (a + b) x = steps s a (steps s b x) := by
 induction b with
 | zero => intro x; rfl
 | succ b ih => intro x; rw [← Nat.add_assoc, steps, ih]; rfl
theorem steps_return {s : Int → Int} {n : Nat} (h : ∀ x : Int, 0 ≤ x → x < n → 0 ≤ s x ∧ s x < n) (inj : ∀ x y : Int, 0 ≤ x → x < n → 0 ≤ y → y < n → s x = s y → x = y) {x : Int} (x0 : 0 ≤ x) (x1 : x < n) :
  ∃ m, 0 < m ∧ m ≤ n ∧ steps s m x = x := by
 obtain ⟨a, b, hab, hb, e⟩ := pigeon n (fun k => steps s k x) (fun k _ => steps_in h k x x0 x1)
 refine ⟨b - a, by omega, by omega, ?_⟩
 have e2 : steps s a x = steps s a (steps s (b - a) x) := by rw [← steps_add, show a + (b - a) = b by omega]; exact e
 have hi := steps_in h (b - a) x x0 x1
 exact (steps_back h inj a x _ x0 x1 hi.1 hi.2 e2).symm
def wy (T B : Int → Int) (a : Int) : Nat → List Int → Int → Option (List Int)
 | 0, _, _ => none
 | d + 1, out, i => if B (T i) = a then some (out ++ [i, T i]) else wy T B a d (out ++ [i, T i]) (B (T i))
theorem wy_length (T B : Int → Int) (a : Int) (d : Nat) : ∀ out i r, wy T B a d out i = some r → r.length ≤ out.length + 2 * d := by
 induction d with
 | zero => intro out i r h; cases h
 | succ d ih =>
  intro out i r h
  unfold wy at h
  split at h
  ·obtain rfl := Option.some.inj h; simp; omega
  ·have := ih _ _ _ h; simp at this; omega
theorem wy_some (T B : Int → Int) (a : Int) (d : Nat) : ∀ (out : List Int) i, steps (fun x => B (T x)) d i = a → 0 < d → ∃ r, wy T B a d out i = some r := by
 induction d with
 | zero => intro out i _ h; omega
 | succ d ih =>
  intro out i h _
  unfold wy
  by_cases e : B (T i) = a
  ·rw [if_pos e]; exact ⟨_, rfl⟩
  ·rw [if_neg e]
   rcases d with _ | d
   ·exact absurd h e
   ·exact ih _ _ h (by omega)
theorem wy_more (T B : Int → Int) (a : Int) (d : Nat) : ∀ (out : List Int) i r, wy T B a d out i = some r → wy T B a (d + 1) out i = some r := by
 induction d with
 | zero => intro out i r h; cases h
 | succ d ih =>
  intro out i r h
  unfold wy at h ⊢
  split at h
  ·rename_i e; rw [if_pos e]; exact h
  ·rename_i e; rw [if_neg e]; exact ih _ _ _ h
theorem wy_le (T B : Int → Int) (a : Int) {d e : Nat} (hde : d ≤ e) {out : List Int} {i : Int} {r : List Int} (h : wy T B a d out i = some r) : wy T B a e out i = some r := by
 obtain ⟨c, rfl⟩ : ∃ c, e = d + c := ⟨e - d, by omega⟩
 clear hde
 induction c with
 | zero => exact h
 | succ c ih => exact wy_more T B a _ out i r ih
structure Two (l m : List Int) : Prop where
 len : l.length = m.length
 small : l.length ≤ 12
 top : Pl.Sys l.length (rd l)
 bot : Pl.Sys l.length (rd m)
theorem Two.next {l m : List Int} (h : Two l m) : ∀ x : Int, 0 ≤ x → x < (l.length : Nat) → 0 ≤ rd m (rd l x) ∧ rd m (rd l x) < (l.length : Nat) := fun x a b =>
 have c := h.top.lo x a b
 have d := h.top.hi x a b
 ⟨h.bot.lo _ c d, h.bot.hi _ c d⟩
theorem Two.inj {l m : List Int} (h : Two l m) : ∀ x y : Int, 0 ≤ x → x < (l.length : Nat) → 0 ≤ y → y < (l.length : Nat) → rd m (rd l x) = rd m (rd l y) → x = y := by
 intro x y x0 x1 y0 y1 e
 have e2 : rd l x = rd l y := by
  have a := h.bot.inv _ (h.top.lo x x0 x1) (h.top.hi x x0 x1)
  have b := h.bot.inv _ (h.top.lo y y0 y1) (h.top.hi y y0 y1)
  rw [← a, e, b]
 have a := h.top.inv x x0 x1
 have b := h.top.inv y y0 y1
 rw [← a, e2, b]
theorem Two.way {l m : List Int} (h : Two l m) {a : Int} (a0 : 0 ≤ a) (a1 : a < l.length) : ∃ r, wy (rd l) (rd m) a l.length [] a = some r := by
 obtain ⟨k, k0, k1, e⟩ := steps_return h.next h.inj a0 a1
 obtain ⟨r, hr⟩ := wy_some (rd l) (rd m) a k [] a e k0
 exact ⟨r, wy_le _ _ _ k1 hr⟩
theorem way_l {l m : List Int} (h : Two l m) (a : Int) (d : Nat) : ∀ (out : List Int) (i : Int) r, 0 ≤ i → i < l.length → out.length + 2 * d ≤ 1048576 → wy (rd l) (rd m) a d out i = some r →
  impl_Meander_way.l0 d a out i l m = some r := by
 induction d with
 | zero => intro out i r _ _ _ h; cases h
 | succ d ih =>
  intro out i r i0 i1 ho hr
  have t0 := h.top.lo i i0 i1
  have t1 := h.top.hi i i0 i1
  have b0 := h.next i i0 i1
  have hl := h.len
  simp only [impl_Meander_way.l0]
  rw [if_pos i0, if_pos i1]
  simp only [Option.bind_some]
  rw [if_pos (by simp; omega), if_pos t0, if_pos (by omega)]
  unfold wy at hr
  split at hr
  ·rename_i e
   rw [if_pos e]; exact hr
  ·rename_i e
   rw [if_neg e]
   exact ih _ _ _ b0.1 b0.2 (by simp; omega) hr
theorem specWay_l {l m : List Int} (h : Two l m) (a : Int) (d : Nat) : ∀ (out : List Int) (i : Int) r, 0 ≤ i → i < l.length → out.length + 2 * d ≤ 1048576 → wy (rd l) (rd m) a d out i = some r →
  spec_meWay.l0 d a (out ++ [i, rd l i]) (rd m (rd l i)) l m = some r := by
 induction d with
 | zero => intro out i r _ _ _ h; cases h
 | succ d ih =>
  intro out i r i0 i1 ho hr
  have b0 := h.next i i0 i1
  have hl := h.len
  simp only [spec_meWay.l0]
  unfold wy at hr
  split at hr
  ·rename_i e
   rw [if_pos e]; exact hr
  ·rename_i e
   have t0 := h.top.lo _ b0.1 b0.2
   have t1 := h.top.hi _ b0.1 b0.2
   rw [if_neg e, if_pos b0.1, if_pos b0.2]
   simp only [Option.bind_some]
   rw [if_pos (by simp; omega), if_pos t0, if_pos (by omega)]
   exact ih _ _ _ b0.1 b0.2 (by simp; omega) hr
def wayL (l m : List Int) (a : Int) : List Int := (wy (rd l) (rd m) a l.length [] a).getD []
theorem wayL_eq {l m : List Int} (h : Two l m) {a : Int} (a0 : 0 ≤ a) (a1 : a < l.length) : wy (rd l) (rd m) a l.length [] a = some (wayL l m a) := by
 obtain ⟨r, hr⟩ := h.way a0 a1
 unfold wayL; rw [hr]; rfl
theorem wayL_length {l m : List Int} (h : Two l m) {a : Int} (a0 : 0 ≤ a) (a1 : a < l.length) : (wayL l m a).length ≤ 24 := by
 have h1 := wy_length _ _ _ _ _ _ _ (wayL_eq h a0 a1)
 have h2 := h.small
 simp only [List.length_nil] at h1
 omega
theorem way_any {l m : List Int} (h : Two l m) {a : Int} (a0 : 0 ≤ a) (a1 : a < l.length) : (∃ K, ∀ k, K ≤ k → impl_Meander_way.f k l m a = some (wayL l m a)) := by
 have hs := h.small
 refine ⟨l.length, fun k hk => ?_⟩
 unfold impl_Meander_way.f
 refine at_rounds (g := fun k => impl_Meander_way.l0 k a [] a l m) (fun k => ?_) hk (way_l h a l.length [] a _ a0 a1 (by simp; omega) (wayL_eq h a0 a1))
 exact impl_Meander_way.mono l m a k
theorem specWay_any {l m : List Int} (h : Two l m) {a : Int} (a0 : 0 ≤ a) (a1 : a < l.length) : (∃ K, ∀ k, K ≤ k → spec_meWay.f k l m a = some (wayL l m a)) := by
 have hs := h.small
 have hl := h.len
 have t0 := h.top.lo a a0 a1
 have t1 := h.top.hi a a0 a1
 refine ⟨l.length, fun k hk => ?_⟩
 refine at_rounds (g := fun k => spec_meWay.f k l m a) (fun k => spec_meWay.mono l m a k) hk ?_
 unfold spec_meWay.f
 rw [if_pos a0, if_pos a1, if_pos t0, if_pos (by omega)]
 exact specWay_l h a l.length [] a _ a0 a1 (by simp; omega) (wayL_eq h a0 a1)
theorem pairB_two {l m : List Int} (h : pairB l m = true) : Two l m := by
 simp only [pairB, Bool.and_eq_true, decide_eq_true_eq] at h
 obtain ⟨⟨h1, h2⟩, h3⟩ := h
 have h1 := tf_iff.1 h1
 have h2 := tf_iff.1 h2
 exact ⟨h3, h1.1, h1.2, by rw [h3]; exact h2.2⟩
theorem wy_in {l m : List Int} (h : Two l m) (a : Int) (d : Nat) : ∀ (out : List Int) (i : Int) r, 0 ≤ i → i < l.length → (∀ x ∈ out, 0 ≤ x ∧ x < l.length) → wy (rd l) (rd m) a d out i = some r →
  (∀ x ∈ r, 0 ≤ x ∧ x < l.length) ∧ (∀ x ∈ out, x ∈ r) ∧ i ∈ r := by
 induction d with
 | zero => intro out i r _ _ _ h; cases h
 | succ d ih =>
  intro out i r i0 i1 ho hr
  have t0 := h.top.lo i i0 i1
  have t1 := h.top.hi i i0 i1
  have b0 := h.next i i0 i1
  have hin : ∀ x ∈ out ++ [i, rd l i], 0 ≤ x ∧ x < l.length := by
   intro x hx
   rcases List.mem_append.1 hx with hx | hx
   ·exact ho x hx
   ·simp at hx
    rcases hx with rfl | rfl
    ·exact ⟨i0, i1⟩
    ·exact ⟨t0, t1⟩
  unfold wy at hr
  split at hr
  ·obtain rfl := Option.some.inj hr
   exact ⟨hin, fun x hx => List.mem_append_left _ hx, by simp⟩
  ·obtain ⟨a1, a2, _⟩ := ih _ _ _ b0.1 b0.2 hin hr
   exact ⟨a1, fun x hx => a2 x (List.mem_append_left _ hx), a2 i (by simp)⟩
theorem wayL_in {l m : List Int} (h : Two l m) {a : Int} (a0 : 0 ≤ a) (a1 : a < l.length) : (∀ x ∈ wayL l m a, 0 ≤ x ∧ x < l.length) ∧ a ∈ wayL l m a := by
 have := wy_in h a l.length [] a _ a0 a1 (by simp) (wayL_eq h a0 a1)
 exact ⟨this.1, this.2.2⟩
def paint (c : Int) : List Int → List Int → List Int
 | [], x => x
 | k :: w, x => paint c w (x.set k.toNat c)
theorem paint_length (c : Int) (w : List Int) : ∀ x, (paint c w x).length = x.length := by
 induction w with
 | nil => intro x; rfl
 | cons k w ih => intro x; unfold paint; rw [ih]; simp
theorem paint_rd (c : Int) (w : List Int) : ∀ (x : List Int), (∀ k ∈ w, 0 ≤ k ∧ k < x.length) → ∀ j : Int, 0 ≤ j → rd (paint c w x) j = if j ∈ w then c else rd x j := by
 induction w with
 | nil => intro x _ j _; simp [paint]
 | cons k w ih =>
  intro x hw j hj
  unfold paint
  have hk := hw k (List.mem_cons_self ..)
  rw [ih _ (fun y hy => by have := hw y (List.mem_cons_of_mem _ hy); simpa using this) j hj, rd_set x k j c hk.1 hk.2 hj]
  by_cases e1 : j ∈ w
  ·simp [e1]
  ·by_cases e2 : j = k <;> simp [e1, e2]
def cvL (l m : List Int) : Nat → List Int → Int → Int → List Int × Int
 | 0, out, c, _ => (out, c)
 | d + 1, out, c, i => if rd out i ≥ 0 then cvL l m d out c (i + 1) else cvL l m d (paint c (wayL l m i) out) (c + 1) (i + 1)
structure Hue (out : List Int) (c : Int) : Prop where
 lo : ∀ j : Int, 0 ≤ j → j < out.length → -1 ≤ rd out j
 hi : ∀ j : Int, 0 ≤ j → j < out.length → rd out j < c
 top : c = 0 ∨ ∃ j : Int, 0 ≤ j ∧ j < out.length ∧ rd out j = c - 1
theorem Hue.paint {l m : List Int} (h : Two l m) {out : List Int} {c i : Int} (hu : Hue out c) (hc : 0 ≤ c) (ho : out.length = l.length) (i0 : 0 ≤ i) (i1 : i < l.length) : Hue (paint c (wayL l m i) out) (c + 1) := by
 obtain ⟨hw, hi⟩ := wayL_in h i0 i1
 have hp := fun j hj => paint_rd c (wayL l m i) out (fun k hk => by rw [ho]; exact hw k hk) j hj
 refine ⟨fun j h0 h1 => ?_, fun j h0 h1 => ?_, .inr ⟨i, i0, by rw [paint_length]; omega, ?_⟩⟩
 ·rw [paint_length] at h1
  rw [hp j h0]
  split
  ·omega
  ·exact hu.lo j h0 h1
 ·rw [paint_length] at h1
  rw [hp j h0]
  split
  ·omega
  ·have := hu.hi j h0 h1; omega
 ·rw [hp i i0, if_pos hi]; omega
theorem cvL_hue {l m : List Int} (h : Two l m) (d : Nat) : ∀ (out : List Int) (c i : Int), Hue out c → 0 ≤ c → c ≤ i → out.length = l.length → 0 ≤ i → (l.length : Int) = i + d →
  Hue (cvL l m d out c i).1 (cvL l m d out c i).2 ∧ (cvL l m d out c i).1.length = l.length ∧ 0 ≤ (cvL l m d out c i).2 ∧ (cvL l m d out c i).2 ≤ l.length := by
 induction d with
 | zero => intro out c i hu hc hci ho i0 hd; exact ⟨hu, ho, hc, by show c ≤ _; omega⟩
 | succ d ih =>
  intro out c i hu hc hci ho i0 hd
  unfold cvL
  split
  ·exact ih out c (i + 1) hu hc (by omega) ho (by omega) (by omega)
  ·exact ih _ (c + 1) (i + 1) (hu.paint h hc ho i0 (by omega)) (by omega) (by omega) (by rw [paint_length]; exact ho) (by omega) (by omega)
def coloursOf (l m : List Int) : List Int × Int := cvL l m l.length (List.replicate l.length (-1)) 0 0
theorem rd_replicate (n : Nat) (v j : Int) (h0 : 0 ≤ j) (h1 : j < n) : rd (List.replicate n v) j = v := by
 unfold rd
 rw [List.getD_eq_getElem?_getD, List.getElem?_replicate, if_pos (by omega)]; rfl
theorem coloursOf_hue {l m : List Int} (h : Two l m) : Hue (coloursOf l m).1 (coloursOf l m).2 ∧ (coloursOf l m).1.length = l.length ∧ 0 ≤ (coloursOf l m).2 ∧ (coloursOf l m).2 ≤ l.length :=
 cvL_hue h l.length (List.replicate l.length (-1)) 0 0 ⟨fun j h0 h1 => by rw [rd_replicate _ _ _ h0 (by simpa using h1)]; omega, fun j h0 h1 => by rw [rd_replicate _ _ _ h0 (by simpa using h1)]; omega, .inl rfl⟩ (by omega) (by omega) (by simp) (by omega) (by omega)
theorem curves_l1 {l m : List Int} {R : List Int × Int} (w : List Int) (c i : Int) (n : Int) (hc : 0 ≤ c) (hc2 : c ≤ 1048576) (hi : 0 ≤ i) (hi2 : i ≤ 1048576) (hw2 : w.length ≤ 1048576) (d : Nat) :
  ∀ (x : List Int) (j : Int), 0 ≤ j → (w.length : Int) = j + d → (∀ k ∈ w, 0 ≤ k ∧ k < x.length) → (∃ K, ∀ k, K ≤ k → impl_Meander_curves.l0 k (paint c (w.drop j.toNat) x) (c + 1) n (i + 1) l m = some (R)) →
  (∃ K, ∀ k, K ≤ k → impl_Meander_curves.l1 k x c n i w w.length j l m = some (R)) := by
 induction d with
 | zero =>
  intro x j h0 hd hw ⟨K, h⟩
  refine ev_rs K fun m hm => ?_
  simp (disch := omega) only [impl_Meander_curves.l1, if_neg, w64]
  rw [List.drop_of_length_le (by omega)] at h
  exact h m hm
 | succ d ih =>
  intro x j h0 hd hw h
  have hk := hw _ (rd_mem w j h0 (by omega))
  have e : w.drop j.toNat = rd w j :: w.drop (j + 1).toNat := by
   rw [List.drop_eq_getElem_cons (by omega), ← rd_get w j.toNat (by omega), show ((j.toNat : Nat) : Int) = j by omega, show (j + 1).toNat = j.toNat + 1 by omega]
  rw [e] at h
  obtain ⟨K, h⟩ := ih (x.set (rd w j).toNat c) (j + 1) (by omega) (by omega) (fun k hk => by simpa using hw k hk) h
  refine ev_rs K fun m hm => ?_
  simp (disch := omega) only [impl_Meander_curves.l1, if_pos, w64]
  exact h m hm
theorem curves_l0 {l m : List Int} (h : Two l m) (d : Nat) : ∀ (out : List Int) (c i : Int), 0 ≤ c → c ≤ i → 0 ≤ i → (l.length : Int) = i + d → out.length = l.length →
  (∃ K, ∀ k, K ≤ k → impl_Meander_curves.l0 k out c l.length i l m = some (cvL l m d out c i)) := by
 have hs := h.small
 induction d with
 | zero =>
  intro out c i hc hci h0 hd ho
  refine ev_rs 0 fun m _ => ?_
  simp (disch := omega) only [impl_Meander_curves.l0, if_neg, cvL]
 | succ d ih =>
  intro out c i hc hci h0 hd ho
  by_cases hr : rd out i ≥ 0
  ·obtain ⟨K, ih⟩ := ih out c (i + 1) hc (by omega) (by omega) (by omega) ho
   refine ev_rs K fun n hn => ?_
   simp (disch := omega) only [impl_Meander_curves.l0, if_pos, w64, cvL]
   exact ih n hn
  ·obtain ⟨hw, hm⟩ := wayL_in h h0 (show i < l.length by omega)
   have hwl := wayL_length h h0 (show i < l.length by omega)
   obtain ⟨K1, h1⟩ := way_any h h0 (show i < l.length by omega)
   obtain ⟨K2, h2⟩ := curves_l1 (R := cvL l m (d + 1) out c i) (l := l) (m := m) (wayL l m i) c i l.length hc (by omega) h0 (by omega) (by omega) (wayL l m i).length out 0 (by omega) (by omega) (fun k hk => by rw [ho]; exact hw k hk) (by
    have := ih (paint c (wayL l m i) out) (c + 1) (i + 1) (by omega) (by omega) (by omega) (by omega) (by rw [paint_length]; exact ho)
    simp only [Int.toNat_zero, List.drop_zero, cvL, if_neg hr]
    exact this)
   refine ev_rs (K1 + K2) fun n hn => ?_
   simp (disch := omega) only [impl_Meander_curves.l0, if_pos, if_neg, h1, Option.bind_some]
   exact h2 n (by omega)
theorem curves_any {l m : List Int} (h : Two l m) : (∃ K, ∀ k, K ≤ k → impl_Meander_curves.f k l m = some (coloursOf l m)) := by
 have hs := h.small
 obtain ⟨K, hK⟩ := curves_l0 h l.length (List.replicate l.length (-1)) 0 0 (by omega) (by omega) (by omega) (by omega) (by simp)
 refine ⟨K, fun k hk => ?_⟩
 unfold impl_Meander_curves.f slices_Repeat_int_int.f
 rw [if_pos (show ([(-1 : Int)]).length = 1 from rfl), if_pos (show (0 : Int) ≤ l.length by omega), if_pos (show (l.length : Int) ≤ 12 by omega), Int.toNat_natCast, Option.bind_some, show rd [(-1 : Int)] 0 = -1 from rfl]
 have := hK k hk
 rw [List.length_replicate]
 exact this
theorem colours_l2 {l m : List Int} {R : List Int} (w : List Int) (c i : Int) (n : Int) (hc : 0 ≤ c) (hc2 : c ≤ 1048576) (hi : 0 ≤ i) (hi2 : i ≤ 1048576) (hw2 : w.length ≤ 1048576) (d : Nat) :
  ∀ (x : List Int) (j : Int), 0 ≤ j → (w.length : Int) = j + d → (∀ k ∈ w, 0 ≤ k ∧ k < x.length) → (∃ K, ∀ k, K ≤ k → spec_meColours.l1 k (paint c (w.drop j.toNat) x) (c + 1) n (i + 1) l m = some (R)) →
  (∃ K, ∀ k, K ≤ k → spec_meColours.l2 k x c n i w w.length j l m = some (R)) := by
 induction d with
 | zero =>
  intro x j h0 hd hw ⟨K, h⟩
  refine ev_rs K fun m hm => ?_
  simp (disch := omega) only [spec_meColours.l2, if_neg, w64]
  rw [List.drop_of_length_le (by omega)] at h
  exact h m hm
 | succ d ih =>
  intro x j h0 hd hw h
  have hk := hw _ (rd_mem w j h0 (by omega))
  have e : w.drop j.toNat = rd w j :: w.drop (j + 1).toNat := by
   rw [List.drop_eq_getElem_cons (by omega), ← rd_get w j.toNat (by omega), show ((j.toNat : Nat) : Int) = j by omega, show (j + 1).toNat = j.toNat + 1 by omega]
  rw [e] at h
  obtain ⟨K, h⟩ := ih (x.set (rd w j).toNat c) (j + 1) (by omega) (by omega) (fun k hk => by simpa using hw k hk) h
  refine ev_rs K fun m hm => ?_
  simp (disch := omega) only [spec_meColours.l2, if_pos, w64]
  exact h m hm
theorem colours_l1 {l m : List Int} (h : Two l m) (d : Nat) : ∀ (out : List Int) (c i : Int), 0 ≤ c → c ≤ i → 0 ≤ i → (l.length : Int) = i + d → out.length = l.length →
  (∃ K, ∀ k, K ≤ k → spec_meColours.l1 k out c l.length i l m = some ((cvL l m d out c i).1)) := by
 have hs := h.small
 induction d with
 | zero =>
  intro out c i hc hci h0 hd ho
  refine ev_rs 0 fun m _ => ?_
  simp (disch := omega) only [spec_meColours.l1, if_neg, cvL]
 | succ d ih =>
  intro out c i hc hci h0 hd ho
  by_cases hr : rd out i ≥ 0
  ·obtain ⟨K, ih⟩ := ih out c (i + 1) hc (by omega) (by omega) (by omega) ho
   refine ev_rs K fun n hn => ?_
   simp (disch := omega) only [spec_meColours.l1, if_pos, w64, cvL]
   exact ih n hn
  ·obtain ⟨hw, hm⟩ := wayL_in h h0 (show i < l.length by omega)
   have hwl := wayL_length h h0 (show i < l.length by omega)
   obtain ⟨K1, h1⟩ := specWay_any h h0 (show i < l.length by omega)
   obtain ⟨K2, h2⟩ := colours_l2 (R := (cvL l m (d + 1) out c i).1) (l := l) (m := m) (wayL l m i) c i l.length hc (by omega) h0 (by omega) (by omega) (wayL l m i).length out 0 (by omega) (by omega) (fun k hk => by rw [ho]; exact hw k hk) (by
    have := ih (paint c (wayL l m i) out) (c + 1) (i + 1) (by omega) (by omega) (by omega) (by omega) (by rw [paint_length]; exact ho)
    simp only [Int.toNat_zero, List.drop_zero, cvL, if_neg hr]
    exact this)
   refine ev_rs (K1 + K2) fun n hn => ?_
   simp (disch := omega) only [spec_meColours.l1, if_pos, if_neg, h1, Option.bind_some]
   exact h2 n (by omega)
theorem colours_l0 {l m : List Int} (h : Two l m) (d : Nat) : ∀ (out : List Int) (i : Int), 0 ≤ i → (l.length : Int) = i + d → out.length = l.length → (∀ j : Int, 0 ≤ j → j < i → rd out j = -1) →
  (∃ K, ∀ k, K ≤ k → spec_meColours.l0 k out l.length i l m = some ((coloursOf l m).1)) := by
 have hs := h.small
 induction d with
 | zero =>
  intro out i h0 hd ho hj
  obtain ⟨K, h1⟩ := colours_l1 h l.length (List.replicate l.length (-1)) 0 0 (by omega) (by omega) (by omega) (by omega) (by simp)
  refine ev_rs K fun n hn => ?_
  have e : out = List.replicate l.length (-1) := rd_ext (by simp [ho]) fun j h1 h2 => by rw [hj j h1 (by omega), rd_replicate _ _ _ h1 (by omega)]
  simp (disch := omega) only [spec_meColours.l0, if_neg]
  rw [e, List.length_replicate]
  exact h1 n hn
 | succ d ih =>
  intro out i h0 hd ho hj
  obtain ⟨K, h1⟩ := ih (out.set i.toNat (-1)) (i + 1) (by omega) (by omega) (by simpa using ho) (fun j h1 h2 => by
   rw [rd_set out i j (-1) h0 (by omega) h1]
   split
   ·rfl
   ·exact hj j h1 (by omega))
  refine ev_rs K fun n hn => ?_
  simp (disch := omega) only [spec_meColours.l0, if_pos, w64]
  exact h1 n hn
theorem meColours_any {l m : List Int} (h : Two l m) : (∃ K, ∀ k, K ≤ k → spec_meColours.f k l m = some ((coloursOf l m).1)) := by
 have hs := h.small
 obtain ⟨K, hK⟩ := colours_l0 h l.length (List.replicate l.length 0) 0 (by omega) (by omega) (by simp) (fun j h0 h1 => by omega)
 refine ⟨K, fun k hk => ?_⟩
 unfold spec_meColours.f
 rw [if_pos (by omega), if_pos (by simp; omega)]
 simp only [Int.toNat_natCast, Option.bind_some, List.length_replicate]
 exact hK k hk
theorem L1_get (T : List (List Int)) (i : Nat) (h : i < T.length) : rd_L2 T (i : Int) = T[i] := by
 unfold rd_L2
 rw [Int.toNat_natCast, List.getD_eq_getElem?_getD, List.getElem?_eq_getElem h]; rfl
def Short (B : Nat) (xs : List (List Int)) : Prop := ∀ r ∈ xs, r.length ≤ B
theorem Short.at {B : Nat} {xs : List (List Int)} (h : Short B xs) (i : Nat) (hi : i < xs.length) : (rd_L2 xs (i : Int)).length ≤ B := by rw [L1_get xs i hi]; exact h _ (List.getElem_mem hi)
theorem Short.set {B : Nat} {xs : List (List Int)} (h : Short B xs) (i : Nat) (y : List Int) (hy : y.length ≤ B) : Short B (xs.set i y) := fun r hr => by
 rcases List.mem_or_eq_of_mem_set hr with hr | rfl
 ·exact h r hr
 ·exact hy
def rgB (cs : List Int) (n : Int) : Bool := (cs.foldl (fun (t : Bool × Int) x => (t.1 && decide (0 ≤ x) && decide (x ≤ t.2), if x = t.2 then t.2 + 1 else t.2)) (true, 0)) == (true, n)
def Rg : List Int → Int → Int → Prop
 | [], t, n => t = n
 | x :: xs, t, n => 0 ≤ x ∧ x ≤ t ∧ Rg xs (if x = t then t + 1 else t) n
theorem rg_fold : ∀ (xs : List Int) (b : Bool) (t n : Int), xs.foldl (fun (t : Bool × Int) x => (t.1 && decide (0 ≤ x) && decide (x ≤ t.2), if x = t.2 then t.2 + 1 else t.2)) (b, t) = (true, n) → b = true ∧ Rg xs t n
 | [], b, t, n, h => by injection h with h1 h2; exact ⟨h1, h2⟩
 | x :: xs, b, t, n, h => by
  have := rg_fold xs _ _ n h
  simp only [Bool.and_eq_true, decide_eq_true_eq] at this
  exact ⟨this.1.1.1, this.1.1.2, this.1.2, this.2⟩
theorem rg_of {cs : List Int} {n : Int} (h : rgB cs n = true) : Rg cs 0 n := (rg_fold cs true 0 n (beq_iff_eq.1 h)).2
theorem Rg.le : ∀ {xs : List Int} {t n : Int}, Rg xs t n → t ≤ n
 | [], _, _, h => Int.le_of_eq h
 | x :: xs, t, n, h => by have := Rg.le h.2.2; split at this <;> omega
theorem rd_drop (l : List Int) (i : Nat) (h : i < l.length) : l.drop i = rd l (i : Int) :: l.drop (i + 1) := by rw [List.drop_eq_getElem_cons h, rd_get l i h]
theorem rows_app (acc : List (List Int)) (x : Int) (k : Nat) (h0 : 0 ≤ x) (h1 : x < acc.length) : rd_L2 (acc ++ List.replicate k []) x = rd_L2 acc x := by
 unfold rd_L2
 rw [List.getD_eq_getElem?_getD, List.getD_eq_getElem?_getD, List.getElem?_append_left (by omega)]
theorem group_l (cs : List Int) (n : Nat) (hn : n ≤ 100) (hc : cs.length ≤ 100) : ∀ (d i : Nat) (acc : List (List Int)), i + d = cs.length → Rg (cs.drop i) (acc.length : Int) (n : Int) → Short i acc →
  ∃ res : List (List Int), res.length = n ∧ Short 100 res ∧ (∀ k, d < k → spec_CurvesOf.l0 k acc cs (cs.length : Int) (i : Int) = some (res, true)) ∧ (∀ k, d < k → impl_CurvesOf.l0 k (acc ++ List.replicate (n - acc.length) []) cs (cs.length : Int) (i : Int) = some (res, true))
 | 0, i, acc, hd, hr, hs => by
  rw [List.drop_eq_nil_of_le (by omega)] at hr
  have hr' : (acc.length : Int) = n := hr
  refine ⟨acc, by omega, (fun r h => by have := hs r h; omega), fun k hk => ?_, fun k hk => ?_⟩
  ·obtain ⟨m, rfl⟩ : ∃ m, k = m + 1 := ⟨k - 1, by omega⟩
   simp only [spec_CurvesOf.l0]
   rw [if_neg (by omega)]
  ·obtain ⟨m, rfl⟩ : ∃ m, k = m + 1 := ⟨k - 1, by omega⟩
   simp only [impl_CurvesOf.l0]
   rw [if_neg (by omega), show n - acc.length = 0 by omega]
   simp
 | d + 1, i, acc, hd, hr, hs => by
  have hi : i < cs.length := by omega
  rw [rd_drop cs i hi] at hr
  obtain ⟨h0, h1, hr⟩ := hr
  have hle := Rg.le hr
  by_cases hx : rd cs (i : Int) = (acc.length : Int)
  ·rw [if_pos hx] at hr
   rw [if_pos hx] at hle
   have hlen : (acc ++ [([] : List Int)]).length = acc.length + 1 := by simp
   have hrow : rd_L2 (acc ++ [([] : List Int)]) (rd cs (i : Int)) = [] := by
    rw [hx, L1_get _ acc.length (by simp)]
    simp
   obtain ⟨res, g1, g2, g3, g4⟩ := group_l cs n hn hc d (i + 1) ((acc ++ [[]]).set (rd cs (i : Int)).toNat [(i : Int)]) (by omega) (by rw [List.length_set, hlen]; exact_mod_cast hr) (Short.set (B := i + 1) (fun r h => by
     rcases List.mem_append.1 h with h | h
     ·have := hs r h; omega
     ·obtain rfl := List.mem_singleton.1 h; simp) _ _ (by simp))
   refine ⟨res, g1, g2, fun k hk => ?_, fun k hk => ?_⟩
   ·obtain ⟨m, rfl⟩ : ∃ m, k = m + 1 := ⟨k - 1, by omega⟩
    have := g3 m (by omega)
    simp only [spec_CurvesOf.l0]
    rw [if_pos (by omega), if_pos (by omega), if_pos (by omega), if_pos hx, if_pos (by omega), Option.bind_some, if_pos h0, if_pos (by rw [hlen]; omega), hrow, if_pos (by simp), List.nil_append, w64 (by omega) (by omega)]
    rwa [show (((i + 1 : Nat)) : Int) = (i : Int) + 1 by omega] at this
   ·obtain ⟨m, rfl⟩ : ∃ m, k = m + 1 := ⟨k - 1, by omega⟩
    have := g4 m (by omega)
    have e : acc ++ List.replicate (n - acc.length) ([] : List Int) = (acc ++ [[]]) ++ List.replicate (n - (acc.length + 1)) [] := by
     rw [List.append_assoc, show n - acc.length = (n - (acc.length + 1)) + 1 by omega, List.replicate_succ]; rfl
    simp only [impl_CurvesOf.l0]
    rw [e]
    have hlt : rd cs (i : Int) < ((acc ++ [([] : List Int)]).length : Int) := by rw [hlen]; omega
    rw [if_pos (by omega), if_pos (by omega), if_pos (by omega), if_pos h0, if_pos (by rw [List.length_append, hlen]; omega), rows_app _ _ _ h0 hlt, hrow, if_pos (by simp), List.nil_append, w64 (by omega) (by omega), List.set_append_left _ _ (by omega)]
    rw [List.length_set, hlen] at this
    rwa [show (((i + 1 : Nat)) : Int) = (i : Int) + 1 by omega] at this
  ·rw [if_neg hx] at hr
   have hlt : rd cs (i : Int) < (acc.length : Int) := by omega
   have hrl : (rd_L2 acc (rd cs (i : Int))).length ≤ i := by
    have := Short.at hs (rd cs (i : Int)).toNat (by omega)
    rwa [show (((rd cs (i : Int)).toNat : Nat) : Int) = rd cs (i : Int) by omega] at this
   obtain ⟨res, g1, g2, g3, g4⟩ := group_l cs n hn hc d (i + 1) (acc.set (rd cs (i : Int)).toNat (rd_L2 acc (rd cs (i : Int)) ++ [(i : Int)])) (by omega) (by rw [List.length_set]; exact hr) (Short.set (B := i + 1) (fun r h => by have := hs r h; omega) _ _ (by simp; omega))
   refine ⟨res, g1, g2, fun k hk => ?_, fun k hk => ?_⟩
   ·obtain ⟨m, rfl⟩ : ∃ m, k = m + 1 := ⟨k - 1, by omega⟩
    have := g3 m (by omega)
    simp only [spec_CurvesOf.l0]
    rw [if_pos (by omega), if_pos (by omega), if_pos (by omega), if_neg hx, if_pos h0, if_pos hlt, if_pos (by omega), w64 (by omega) (by omega)]
    rwa [show (((i + 1 : Nat)) : Int) = (i : Int) + 1 by omega] at this
   ·obtain ⟨m, rfl⟩ : ∃ m, k = m + 1 := ⟨k - 1, by omega⟩
    have := g4 m (by omega)
    simp only [impl_CurvesOf.l0]
    rw [if_pos (by omega), if_pos (by omega), if_pos (by omega), if_pos h0, if_pos (by rw [List.length_append]; omega), rows_app _ _ _ h0 hlt, if_pos (by omega), w64 (by omega) (by omega), List.set_append_left _ _ (by omega)]
    rw [List.length_set] at this
    rwa [show (((i + 1 : Nat)) : Int) = (i : Int) + 1 by omega] at this
theorem rg_tab : ((List.range 6).all fun n => (Pl.sysList n).all fun l => (Pl.sysList n).all fun m => rgB (coloursOf l m).1 (coloursOf l m).2) = true := by decide +kernel
theorem rg_tab6_0 : (((Pl.sysList 6).drop 0).take 22).all (fun l => (Pl.sysList 6).all fun m => rgB (coloursOf l m).1 (coloursOf l m).2) = true := by decide +kernel
theorem rg_tab6_1 : (((Pl.sysList 6).drop 22).take 22).all (fun l => (Pl.sysList 6).all fun m => rgB (coloursOf l m).1 (coloursOf l m).2) = true := by decide +kernel
theorem rg_tab6_2 : (((Pl.sysList 6).drop 44).take 22).all (fun l => (Pl.sysList 6).all fun m => rgB (coloursOf l m).1 (coloursOf l m).2) = true := by decide +kernel
theorem rg_tab6_3 : (((Pl.sysList 6).drop 66).take 22).all (fun l => (Pl.sysList 6).all fun m => rgB (coloursOf l m).1 (coloursOf l m).2) = true := by decide +kernel
theorem rg_tab6_4 : (((Pl.sysList 6).drop 88).take 22).all (fun l => (Pl.sysList 6).all fun m => rgB (coloursOf l m).1 (coloursOf l m).2) = true := by decide +kernel
theorem rg_tab6_5 : (((Pl.sysList 6).drop 110).take 22).all (fun l => (Pl.sysList 6).all fun m => rgB (coloursOf l m).1 (coloursOf l m).2) = true := by decide +kernel
end Go.Proofs.Ytfencncopkeobaa.Pure
