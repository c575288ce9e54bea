/- The law FnPairsMoved answers true at every input that its guards let in. -/
import Derived.Test.YtfencncopkeobaaQFnPairsMovedx13
import Derived.Test.YtfencncopkeobaaMyPl
namespace Go.Proofs.Ytfencncopkeobaa.Pure
open Go.RowKit Go.Proofs.Ytfencncopkeobaa.QFnPairsMoved Go.Proofs.YtfencncopkeobaaW.PrintWords Go.Proofs.YtfencncopkeobaaW.PrintLast
open laws_FnPairsMoved
set_option linter.unusedVariables false
set_option linter.unusedSimpArgs false
theorem w64 {x : Int} (h1 : -9223372036854775808 ≤ x) (h2 : x < 9223372036854775808) : wrap64 x = x := by unfold wrap64; omega
theorem ev_rs {α : Type} {g : Nat → Option α} {r : α} (K : Nat) (h : ∀ m, K ≤ m → g (m + 1) = some r) : ∃ K, ∀ k, K ≤ k → g k = some r := by
 refine ⟨K + 1, fun k hk => ?_⟩
 obtain ⟨m, rfl⟩ : ∃ m, k = m + 1 := ⟨k - 1, by omega⟩
 exact h m (by omega)
noncomputable def tf (P : Prop) : Bool := @decide P (Classical.propDecidable P)
theorem tf_t {P : Prop} (h : P) : tf P = true := by unfold tf; simp [h]
theorem tf_f {P : Prop} (h : ¬ P) : tf P = false := by unfold tf; simp [h]
theorem tf_iff {P : Prop} : tf P = true ↔ P := by unfold tf; simp
theorem tf_c {P Q : Prop} (h : P ↔ Q) : tf P = tf Q := by rw [propext h]
theorem rd_set (l : List Int) (i j v : Int) (hi : 0 ≤ i) (hl : i < l.length) (hj : 0 ≤ j) : rd (l.set i.toNat v) j = if j = i then v else rd l j := by
 unfold rd
 simp only [List.getD_eq_getElem?_getD, List.getElem?_set]
 by_cases e : j = i
 ·subst e
  rw [if_pos rfl, if_pos rfl, if_pos (by omega)]; rfl
 ·rw [if_neg (by omega), if_neg e]
theorem rd_get (l : List Int) (i : Nat) (h : i < l.length) : rd l i = l[i] := by
 unfold rd
 rw [Int.toNat_natCast, List.getD_eq_getElem?_getD, List.getElem?_eq_getElem h]; rfl
theorem rd_mem (l : List Int) (i : Int) (h0 : 0 ≤ i) (h : i < l.length) : rd l i ∈ l := by
 have e := rd_get l i.toNat (by omega)
 rw [show ((i.toNat : Nat) : Int) = i by omega] at e
 rw [e]; exact List.getElem_mem _
theorem in_any (a lo hi : Int) : impl_in.f a lo hi = some (decide (lo ≤ a ∧ a ≤ hi)) := by
 unfold impl_in.f
 by_cases h : lo ≤ a <;> simp [h]
theorem l1In_any (a lo hi : Int) : spec_l1In.f a lo hi = some (decide (lo ≤ a ∧ a ≤ hi)) := by
 unfold spec_l1In.f
 by_cases h : lo ≤ a
 ·rw [if_pos h]; simp [h]
 ·rw [if_neg h]; simp [h]
def AllIn (n : Int) (q : Int → Int) (i : Int) : Prop := ∀ j : Int, i ≤ j → j < n → 0 ≤ q j ∧ q j < n ∧ q j ≠ j ∧ q (q j) = j
def NoCross (n : Int) (q : Int → Int) (i : Int) : Prop := ∀ a b, i ≤ a → a < n → a < b → b < q a → a ≤ q b ∧ q b ≤ q a
theorem sys_of {n : Int} {q : Int → Int} : Pl.Sys n q ↔ AllIn n q 0 ∧ NoCross n q 0 :=
 ⟨fun s => ⟨fun j h0 h1 => ⟨s.lo j h0 h1, s.hi j h0 h1, s.ne j h0 h1, s.inv j h0 h1⟩, s.cr⟩,
 fun ⟨h, c⟩ => ⟨fun j h0 h1 => (h j h0 h1).1, fun j h0 h1 => (h j h0 h1).2.1, fun j h0 h1 => (h j h0 h1).2.2.1, fun j h0 h1 => (h j h0 h1).2.2.2, c⟩⟩
theorem isSystem_l2 (l : List Int) (hn : l.length < 4611686018427387904) (a : Int) (ha : 0 ≤ a) (hal : a < l.length) (hA : AllIn l.length (rd l) 0)
  (h1 : (∃ K, ∀ k, K ≤ k → impl_isSystem.l1 k l l l.length (a + 1) = some (tf (NoCross l.length (rd l) (a + 1))))) (d : Nat) :
  ∀ b : Int, a < b → rd l a - b ≤ d → (∃ K, ∀ k, K ≤ k → impl_isSystem.l2 k l a (rd l a) b l l.length a = some (tf ((∀ b' : Int, b ≤ b' → b' < rd l a → a ≤ rd l b' ∧ rd l b' ≤ rd l a) ∧ NoCross l.length (rd l) (a + 1)))) := by
 have hq := hA a ha hal
 obtain ⟨K1, h1⟩ := h1
 have out : ∀ b : Int, a < b → ¬ b < rd l a → (∃ K, ∀ k, K ≤ k → impl_isSystem.l2 k l a (rd l a) b l l.length a = some (tf ((∀ b' : Int, b ≤ b' → b' < rd l a → a ≤ rd l b' ∧ rd l b' ≤ rd l a) ∧ NoCross l.length (rd l) (a + 1)))) := by
  intro b hb hlt
  refine ev_rs K1 fun m hm => ?_
  simp (disch := omega) only [impl_isSystem.l2, if_neg, w64]
  rw [h1 m hm]
  congr 1
  exact tf_c ⟨fun h => ⟨fun b' _ _ => by omega, h⟩, fun h => h.2⟩
 induction d with
 | zero =>
  intro b hb hd
  exact out b hb (by omega)
 | succ d ih =>
  intro b hb hd
  by_cases hlt : b < rd l a
  ·obtain ⟨K, ih⟩ := ih (b + 1) (by omega) (by omega)
   by_cases he : a ≤ rd l b ∧ rd l b ≤ rd l a
   ·refine ev_rs K fun m hm => ?_
    simp (disch := omega) only [impl_isSystem.l2, if_pos, w64, in_any, Option.bind_some]
    rw [decide_eq_true he]
    simp only [if_true]
    rw [ih m hm]
    congr 1
    refine tf_c ⟨fun h => ⟨fun b' h2 h3 => ?_, h.2⟩, fun h => ⟨fun b' h2 h3 => h.1 b' (by omega) h3, h.2⟩⟩
    by_cases e : b' = b
    ·rw [e]; exact he
    ·exact h.1 b' (by omega) h3
   ·refine ev_rs 0 fun m hm => ?_
    simp (disch := omega) only [impl_isSystem.l2, if_pos, in_any, Option.bind_some]
    rw [decide_eq_false he, tf_f]
    ·simp
    ·exact fun h => he (h.1 b (Int.le_refl _) hlt)
  ·exact out b hb hlt
theorem isSystem_l1 (l : List Int) (hn : l.length < 4611686018427387904) (hA : AllIn l.length (rd l) 0) (d : Nat) : ∀ a : Int, 0 ≤ a → (l.length : Int) - a ≤ d →
  (∃ K, ∀ k, K ≤ k → impl_isSystem.l1 k l l l.length a = some (tf (NoCross l.length (rd l) a))) := by
 have out : ∀ a : Int, ¬ a < l.length → (∃ K, ∀ k, K ≤ k → impl_isSystem.l1 k l l l.length a = some (tf (NoCross l.length (rd l) a))) := by
  intro a hlt
  refine ev_rs 0 fun m hm => ?_
  simp (disch := omega) only [impl_isSystem.l1, if_neg]
  rw [tf_t]
  intro a' b h1 h2; omega
 induction d with
 | zero => intro a h0 hd; exact out a (by omega)
 | succ d ih =>
  intro a h0 hd
  by_cases hlt : a < (l.length : Int)
  ·have h1 := ih (a + 1) (by omega) (by omega)
   have hq := hA a h0 hlt
   obtain ⟨K, h2⟩ := isSystem_l2 l hn a h0 hlt hA h1 (rd l a - (a + 1)).toNat (a + 1) (by omega) (by omega)
   refine ev_rs K fun m hm => ?_
   simp (disch := omega) only [impl_isSystem.l1, if_pos, w64]
   rw [h2 m hm]
   congr 1
   refine tf_c ⟨fun h a' b h3 h4 h5 h6 => ?_, fun h => ⟨fun b' h3 h4 => h a b' (Int.le_refl _) hlt (by omega) h4, fun a' b h3 h4 h5 h6 => h a' b (by omega) h4 h5 h6⟩⟩
   by_cases e : a' = a
   ·subst e; exact h.1 b (by omega) h6
   ·exact h.2 a' b (by omega) h4 h5 h6
  ·exact out a hlt
theorem isSystem_l0 (l : List Int) (hn : l.length < 4611686018427387904) (d : Nat) : ∀ i : Int, 0 ≤ i → (l.length : Int) - i ≤ d → (∀ j : Int, 0 ≤ j → j < i → 0 ≤ rd l j ∧ rd l j < l.length ∧ rd l j ≠ j ∧ rd l (rd l j) = j) →
  (∃ K, ∀ k, K ≤ k → impl_isSystem.l0 k l l l.length i = some (tf (AllIn l.length (rd l) i ∧ NoCross l.length (rd l) 0))) := by
 have out : ∀ i : Int, 0 ≤ i → ¬ i < l.length → (∀ j : Int, 0 ≤ j → j < i → 0 ≤ rd l j ∧ rd l j < l.length ∧ rd l j ≠ j ∧ rd l (rd l j) = j) → (∃ K, ∀ k, K ≤ k → impl_isSystem.l0 k l l l.length i = some (tf (AllIn l.length (rd l) i ∧ NoCross l.length (rd l) 0))) := by
  intro i h0 hlt hp
  obtain ⟨K, h1⟩ := isSystem_l1 l hn (fun j h1 h2 => hp j h1 (by omega)) l.length 0 (by omega) (by omega)
  refine ev_rs K fun m hm => ?_
  simp (disch := omega) only [impl_isSystem.l0, if_neg]
  rw [h1 m hm]
  congr 1
  exact tf_c ⟨fun h => ⟨fun j _ _ => by omega, h⟩, fun h => h.2⟩
 induction d with
 | zero => intro i h0 hd hp; exact out i h0 (by omega) hp
 | succ d ih =>
  intro i h0 hd hp
  by_cases hlt : i < (l.length : Int)
  ·by_cases hr : 0 ≤ rd l i ∧ rd l i ≤ (l.length : Int) - 1
   ·by_cases hs : rd l i = i
    ·refine ev_rs 0 fun m hm => ?_
     simp (disch := omega) only [impl_isSystem.l0, if_pos, w64, in_any, Option.bind_some]
     rw [decide_eq_true hr, tf_f]
     ·simp [hs]
     ·exact fun h => (h.1 i (Int.le_refl _) hlt).2.2.1 hs
    ·by_cases hi : rd l (rd l i) = i
     ·obtain ⟨K, ih⟩ := ih (i + 1) (by omega) (by omega) (fun j h1 h2 => by
       by_cases e : j = i
       ·subst e; exact ⟨by omega, by omega, hs, hi⟩
       ·exact hp j h1 (by omega))
      refine ev_rs K fun m hm => ?_
      simp (disch := omega) only [impl_isSystem.l0, if_pos, if_neg, w64, in_any, Option.bind_some]
      rw [decide_eq_true hr, if_pos rfl, ih m hm]
      congr 1
      refine tf_c ⟨fun h => ⟨fun j h1 h2 => ?_, h.2⟩, fun h => ⟨fun j h1 h2 => h.1 j (by omega) h2, h.2⟩⟩
      by_cases e : j = i
      ·subst e; exact ⟨by omega, by omega, hs, hi⟩
      ·exact h.1 j (by omega) h2
     ·refine ev_rs 0 fun m hm => ?_
      simp (disch := omega) only [impl_isSystem.l0, if_pos, if_neg, w64, in_any, Option.bind_some]
      rw [decide_eq_true hr, tf_f]
      ·simp
      ·exact fun h => hi (h.1 i (Int.le_refl _) hlt).2.2.2
   ·refine ev_rs 0 fun m hm => ?_
    simp (disch := omega) only [impl_isSystem.l0, if_pos, w64, in_any, Option.bind_some]
    rw [decide_eq_false hr, tf_f]
    ·simp
    ·exact fun h => hr (by have := h.1 i (Int.le_refl _) hlt; omega)
  ·exact out i h0 hlt hp
noncomputable def sysB (l : List Int) : Bool := tf (l.length ≤ 12 ∧ Pl.Sys l.length (rd l))
theorem isSystem_any (l : List Int) (hn : l.length < 4611686018427387904) : (∃ K, ∀ k, K ≤ k → impl_isSystem.f k l = some (tf (Pl.Sys l.length (rd l)))) := by
 obtain ⟨K, h⟩ := isSystem_l0 l hn l.length 0 (by omega) (by omega) (fun j _ _ => by omega)
 refine ⟨K, fun k hk => ?_⟩
 unfold impl_isSystem.f
 rw [h k hk]
 exact congrArg _ (tf_c sys_of.symm)
theorem IsSystem_any (l : List Int) (hn : l.length < 4611686018427387904) : (∃ K, ∀ k, K ≤ k → impl_IsSystem.f k l = some (sysB l)) := by
 obtain ⟨K, h⟩ := isSystem_any l hn
 refine ⟨K, fun k hk => ?_⟩
 unfold impl_IsSystem.f sysB
 by_cases h12 : (l.length : Int) ≤ 12
 ·rw [if_pos h12, h k hk]
  exact congrArg _ (tf_c ⟨fun h => ⟨by omega, h⟩, fun h => h.2⟩)
 ·rw [if_neg h12, tf_f]
  exact fun h => h12 (by omega)
theorem l1All_l (l : List Int) (hn : l.length < 4611686018427387904) (lo hi : Int) (d : Nat) : ∀ i : Int, 0 ≤ i → (l.length : Int) - i ≤ d →
  (∃ K, ∀ k, K ≤ k → spec_l1All.l0 k lo hi l l.length i = some (tf (∀ j : Int, i ≤ j → j < l.length → lo ≤ rd l j ∧ rd l j ≤ hi))) := by
 have out : ∀ i : Int, ¬ i < l.length → (∃ K, ∀ k, K ≤ k → spec_l1All.l0 k lo hi l l.length i = some (tf (∀ j : Int, i ≤ j → j < l.length → lo ≤ rd l j ∧ rd l j ≤ hi))) := by
  intro i hlt
  refine ev_rs 0 fun m hm => ?_
  simp (disch := omega) only [spec_l1All.l0, if_neg]
  rw [tf_t]
  intro j h1 h2; omega
 induction d with
 | zero => intro i h0 hd; exact out i (by omega)
 | succ d ih =>
  intro i h0 hd
  by_cases hlt : i < (l.length : Int)
  ·obtain ⟨K, ih⟩ := ih (i + 1) (by omega) (by omega)
   by_cases he : lo ≤ rd l i ∧ rd l i ≤ hi
   ·refine ev_rs K fun m hm => ?_
    simp (disch := omega) only [spec_l1All.l0, if_pos, w64, l1In_any, Option.bind_some]
    rw [decide_eq_true he, if_pos rfl, ih m hm]
    congr 1
    refine tf_c ⟨fun h j h1 h2 => ?_, fun h j h1 h2 => h j (by omega) h2⟩
    by_cases e : j = i
    ·rw [e]; exact he
    ·exact h j (by omega) h2
   ·refine ev_rs 0 fun m hm => ?_
    simp (disch := omega) only [spec_l1All.l0, if_pos, l1In_any, Option.bind_some]
    rw [decide_eq_false he, tf_f]
    ·simp
    ·exact fun h => he (h i (Int.le_refl _) hlt)
  ·exact out i hlt
theorem l1All_any (l : List Int) (hn : l.length < 4611686018427387904) (lo hi : Int) : (∃ K, ∀ k, K ≤ k → spec_l1All.f k l lo hi = some (tf (∀ j : Int, 0 ≤ j → j < l.length → lo ≤ rd l j ∧ rd l j ≤ hi))) :=
 l1All_l l hn lo hi l.length 0 (by omega) (by omega)
theorem ahGood_l (l : List Int) (hn : l.length ≤ 12) (hR : ∀ j : Int, 0 ≤ j → j < l.length → 0 ≤ rd l j ∧ rd l j ≤ (l.length : Int) - 1) (d : Nat) : ∀ (i : Int) (op : List Int), 0 ≤ i → i ≤ l.length → (l.length : Int) - i ≤ d → (op.length : Int) ≤ i →
  Pl.Ideal (rd l) i op ∨ (Pl.Doomed l.length (rd l) i op ∧ ¬ Pl.Sys l.length (rd l)) →
  (∃ K, ∀ k, K ≤ k → spec_ahGood.l0 k l op l l.length i = some (tf (Pl.Sys l.length (rd l)))) := by
 have out : ∀ (i : Int) (op : List Int), i ≤ l.length → ¬ i < l.length → Pl.Ideal (rd l) i op ∨ (Pl.Doomed l.length (rd l) i op ∧ ¬ Pl.Sys l.length (rd l)) →
  (∃ K, ∀ k, K ≤ k → spec_ahGood.l0 k l op l l.length i = some (tf (Pl.Sys l.length (rd l)))) := by
  intro i op hi hlt h
  rcases h with h | h
  ·have e : i = l.length := by omega
   subst e
   refine ev_rs 0 fun m hm => ?_
   simp (disch := omega) only [spec_ahGood.l0, if_neg]
   rw [tf_t (h.finish (fun j h0 h1 => (hR j h0 h1).1) (fun j h0 h1 => by have := hR j h0 h1; omega))]
  ·have := h.1.lt; omega
 induction d with
 | zero => intro i op h0 hi hd hop h; exact out i op hi (by omega) h
 | succ d ih =>
  intro i op h0 hi hd hop h
  by_cases hlt : i < (l.length : Int)
  ·have hr := hR i h0 hlt
   by_cases hgt : rd l i > i
   ·by_cases he : rd l (rd l i) = i
    ·-- an arch begins
     obtain ⟨K, ih⟩ := ih (i + 1) (i :: op) (by omega) (by omega) (by omega) (by simp; omega) (by
      rcases h with h | h
      ·exact .inl (h.push h0 hgt he)
      ·exact .inr ⟨h.1.push hgt, h.2⟩)
     refine ev_rs (K + 1) fun m hm => ?_
     obtain ⟨m, rfl⟩ : ∃ m', m = m' + 1 := ⟨m - 1, by omega⟩
     have hb : (rd l (rd l i) == i) = true := by simp [he]
     simp (disch := omega) only [spec_ahGood.l0, if_pos, w64]
     rw [hb]
     simp only [spec_ahGood.j2, if_true, Option.bind_some]
     rw [if_pos (by simp; omega), w64 (by omega) (by omega)]
     exact ih m (by omega)
    ·have hb : (rd l (rd l i) == i) = false := by simp [he]
     refine ev_rs 1 fun m hm => ?_
     obtain ⟨m, rfl⟩ : ∃ m', m = m' + 1 := ⟨m - 1, by omega⟩
     simp (disch := omega) only [spec_ahGood.l0, if_pos, w64]
     rw [hb, tf_f (Pl.Ideal.fail_push he h0 hlt)]
     simp (disch := omega) only [spec_ahGood.j2, Bool.false_eq_true, if_false, if_neg]
   ·by_cases hs : rd l i = i
    ·refine ev_rs 1 fun m hm => ?_
     obtain ⟨m, rfl⟩ : ∃ m', m = m' + 1 := ⟨m - 1, by omega⟩
     simp (disch := omega) only [spec_ahGood.l0, if_pos, if_neg, w64]
     rw [tf_f (Pl.Ideal.fail_self hs h0 hlt)]
     simp (disch := omega) only [spec_ahGood.j2, Bool.false_eq_true, if_false, if_neg]
    ·have hls : rd l i < i := by omega
     have stop : op.head? ≠ some (rd l i) → ¬ Pl.Sys l.length (rd l) := fun hh => by
      rcases h with h | h
      ·exact h.fail_pop h0 hlt hls hh
      ·exact h.2
     cases op with
     | nil =>
      refine ev_rs 1 fun m hm => ?_
      obtain ⟨m, rfl⟩ : ∃ m', m = m' + 1 := ⟨m - 1, by omega⟩
      simp (disch := omega) only [spec_ahGood.l0, if_pos, if_neg, w64]
      rw [tf_f (stop (by simp))]
      simp (disch := omega) only [spec_ahGood.j2, Bool.false_eq_true, if_false, if_pos]
      simp
     | cons b t =>
      have hd0 : rd (b :: t) 0 = b := rfl
      by_cases hbt : b = rd l i
      ·obtain ⟨K, ih⟩ := ih (i + 1) t (by omega) (by omega) (by omega) (by simp at hop; omega) (by
        rcases h with h | h
        ·by_cases he : rd l b = i
         ·exact .inl (h.pop h0 hbt.symm (by omega) he (fun b h1 h2 => (hR b h1 (by omega)).1))
         ·refine .inr ⟨h.doom h0 hbt.symm (by omega) he ?_, ?_⟩
          ·have := (hR b (by omega) (by omega)).2; omega
          ·intro s
           have := s.inv i h0 hlt
           rw [← hbt] at this; exact he this
        ·exact .inr ⟨h.1.pop hbt.symm, h.2⟩)
       refine ev_rs (K + 1) fun m hm => ?_
       obtain ⟨m, rfl⟩ : ∃ m', m = m' + 1 := ⟨m - 1, by omega⟩
       simp (disch := omega) only [spec_ahGood.l0, if_pos, if_neg, w64]
       simp only [spec_ahGood.j2, Bool.false_eq_true, if_false]
       rw [if_pos hls, if_pos (by simp), if_pos (by simp), hd0, if_pos hbt, if_pos (by simp; omega), w64 (by omega) (by omega)]
       exact ih m (by omega)
      ·refine ev_rs 1 fun m hm => ?_
       obtain ⟨m, rfl⟩ : ∃ m', m = m' + 1 := ⟨m - 1, by omega⟩
       simp (disch := omega) only [spec_ahGood.l0, if_pos, if_neg, w64]
       simp only [spec_ahGood.j2, Bool.false_eq_true, if_false]
       rw [if_pos hls, if_pos (by simp), if_pos (by simp), hd0, if_neg hbt, tf_f (stop (by simpa using hbt))]
  ·exact out i op hi hlt h
theorem ahGood_any (l : List Int) (hn : l.length < 4611686018427387904) : (∃ K, ∀ k, K ≤ k → spec_ahGood.f k l = some (sysB l)) := by
 unfold sysB
 by_cases h2 : (l.length : Int) % 2 = 1
 ·refine ev_rs 0 fun m hm => ?_
  unfold spec_ahGood.f
  rw [if_pos h2, tf_f]
  ·simp [spec_ahGood.j0]
  ·intro h
   have := h.2.even (by omega)
   omega
 ·by_cases h12 : (l.length : Int) > 12
  ·refine ev_rs 0 fun m hm => ?_
   unfold spec_ahGood.f
   rw [if_neg h2, if_pos h12, tf_f]
   ·simp [spec_ahGood.j0]
   ·intro h; omega
  ·obtain ⟨K, h⟩ := l1All_any l hn 0 ((l.length : Int) - 1)
   by_cases hR : ∀ j : Int, 0 ≤ j → j < (l.length : Int) → 0 ≤ rd l j ∧ rd l j ≤ (l.length : Int) - 1
   ·obtain ⟨K2, h3⟩ := ahGood_l l (by omega) hR l.length 0 [] (by omega) (by omega) (by omega) (by simp) (.inl (.start _))
    refine ev_rs (K + K2) fun m hm => ?_
    unfold spec_ahGood.f
    rw [if_neg h2, if_neg h12, w64 (by omega) (by omega), h (m + 1) (by omega), tf_t hR]
    simp only [Option.bind_some, Bool.not_true, spec_ahGood.j0, Bool.false_eq_true, if_false]
    rw [h3 m (by omega)]
    exact congrArg _ (tf_c ⟨fun h => ⟨by omega, h⟩, fun h => h.2⟩)
   ·refine ev_rs K fun m hm => ?_
    unfold spec_ahGood.f
    rw [if_neg h2, if_neg h12, w64 (by omega) (by omega), h (m + 1) (by omega), tf_f hR, tf_f]
    ·simp [spec_ahGood.j0]
    ·intro s
     exact hR fun j h0 h1 => ⟨s.2.lo j h0 h1, by have := s.2.hi j h0 h1; omega⟩
theorem sysB_mem {l : List Int} (h : sysB l = true) : l.length / 2 < 7 ∧ l ∈ Pl.sysList (l.length / 2) := by
 have := tf_iff.1 h
 exact ⟨by omega, Pl.Sys.mem this.2 this.1⟩
theorem of_table {P : List Int → Bool} (h : ((List.range 7).all fun n => (Pl.sysList n).all P) = true) {l : List Int} (hl : sysB l = true) : P l = true := by
 obtain ⟨h7, hm⟩ := sysB_mem hl
 exact List.all_eq_true.1 (List.all_eq_true.1 h _ (List.mem_range.2 h7)) _ hm
theorem all_chunks {α : Type} (P : α → Bool) (c : Nat) (m : Nat) : ∀ l : List α, l.length ≤ c * m → (∀ i, i < m → ((l.drop (c * i)).take c).all P = true) → l.all P = true := by
 induction m with
 | zero =>
  intro l hl _
  have e : l = [] := List.eq_nil_of_length_eq_zero (by omega)
  subst e; rfl
 | succ m ih =>
  intro l hl h
  rw [← List.take_append_drop c l, List.all_append, Bool.and_eq_true]
  refine ⟨?_, ih _ (by rw [List.length_drop, Nat.mul_succ] at *; omega) fun i hi => ?_⟩
  ·have := h 0 (by omega)
   simpa using this
  ·have := h (i + 1) (by omega)
   rw [List.drop_drop]
   rw [show c * (i + 1) = c + c * i by rw [Nat.mul_succ, Nat.add_comm]] at this
   exact this
theorem len6 : (Pl.sysList 6).length = 132 := by decide +kernel
theorem len5 : (Pl.sysList 5).length = 42 := by decide +kernel
theorem tab_of {P : List Int → Bool} (h : ((List.range 5).all fun n => (Pl.sysList n).all P) = true) (h5 : ∀ i, i < 3 → (((Pl.sysList 5).drop (14 * i)).take 14).all P = true)
  (h6 : ∀ i, i < 6 → (((Pl.sysList 6).drop (22 * i)).take 22).all P = true) : ((List.range 7).all fun n => (Pl.sysList n).all P) = true := by
 rw [List.all_eq_true] at h ⊢
 intro n hn
 have hn := List.mem_range.1 hn
 by_cases h1 : n < 5
 ·exact h n (List.mem_range.2 h1)
 ·by_cases h2 : n = 5
  ·subst h2; exact all_chunks P 14 3 _ (by rw [len5]; omega) h5
  ·have e : n = 6 := by omega
   subst e; exact all_chunks P 22 6 _ (by rw [len6]; omega) h6
noncomputable def pairB (l m : List Int) : Bool := sysB l && sysB m && decide (l.length = m.length)
theorem IsPair_any (l m : List Int) (hl : l.length < 4611686018427387904) (hm : m.length < 4611686018427387904) : (∃ K, ∀ k, K ≤ k → impl_IsPair.f k l m = some (pairB l m)) := by
 obtain ⟨K1, h1⟩ := IsSystem_any l hl
 obtain ⟨K2, h2⟩ := IsSystem_any m hm
 refine ⟨K1 + K2, fun k hk => ?_⟩
 simp (disch := omega) only [impl_IsPair.f, h1, h2, Option.bind_some, pairB]
 cases sysB l <;> cases sysB m <;> simp
 by_cases e : l.length = m.length
 ·simp [e]
 ·simp [e]; omega
theorem mePair_any (l m : List Int) (hl : l.length < 4611686018427387904) (hm : m.length < 4611686018427387904) : (∃ K, ∀ k, K ≤ k → spec_mePair.f k l m = some (pairB l m)) := by
 obtain ⟨K1, h1⟩ := ahGood_any l hl
 obtain ⟨K2, h2⟩ := ahGood_any m hm
 refine ⟨K1 + K2, fun k hk => ?_⟩
 simp (disch := omega) only [spec_mePair.f, h1, h2, Option.bind_some, pairB]
 cases sysB l <;> cases sysB m <;> simp
 by_cases e : l.length = m.length
 ·simp [e]
 ·simp [e]; omega
theorem pigeon (n : Nat) : ∀ f : Nat → Int, (∀ k, k ≤ n → 0 ≤ f k ∧ f k < n) → ∃ a b, a < b ∧ b ≤ n ∧ f a = f b := by
 induction n with
 | zero => intro f h; have := h 0 (by omega); omega
 | succ n ih =>
  intro f h
  by_cases hex : ∃ k, k ≤ n ∧ f k = f (n + 1)
  ·obtain ⟨k, hk, e⟩ := hex
   exact ⟨k, n + 1, by omega, by omega, e⟩
  ·obtain ⟨a, b, hab, hb, e⟩ := ih (fun k => if f k = n then f (n + 1) else f k) (fun k hk => by
    have h1 := h k (by omega)
    have h2 := h (n + 1) (by omega)
    have h3 : f k ≠ f (n + 1) := fun e => hex ⟨k, hk, e⟩
    split <;> omega)
   by_cases e1 : f a = n <;> by_cases e2 : f b = n
   ·exact ⟨a, b, hab, by omega, by omega⟩
   ·rw [if_pos e1, if_neg e2] at e
    exact absurd ⟨b, hb, e.symm⟩ hex
   ·rw [if_neg e1, if_pos e2] at e
    exact absurd ⟨a, by omega, e⟩ hex
   ·rw [if_neg e1, if_neg e2] at e
    exact ⟨a, b, hab, by omega, e⟩
def steps (s : Int → Int) : Nat → Int → Int
 | 0, x => x
 | m + 1, x => steps s m (s x)
theorem steps_in {s : Int → Int} {n : Nat} (h : ∀ x : Int, 0 ≤ x → x < n → 0 ≤ s x ∧ s x < n) (m : Nat) : ∀ x : Int, 0 ≤ x → x < n → 0 ≤ steps s m x ∧ steps s m x < n := by
 induction m with
 | zero => intro x a b; exact ⟨a, b⟩
 | succ m ih => intro x a b; have := h x a b; exact ih _ this.1 this.2
theorem steps_back {s : Int → Int} {n : Nat} (h : ∀ x : Int, 0 ≤ x → x < n → 0 ≤ s x ∧ s x < n) (inj : ∀ x y : Int, 0 ≤ x → x < n → 0 ≤ y → y < n → s x = s y → x = y) (a : Nat) :
  ∀ x y : Int, 0 ≤ x → x < n → 0 ≤ y → y < n → steps s a x = steps s a y → x = y := by
 induction a with
 | zero => intro x y _ _ _ _ e; exact e
 | succ a ih =>
  intro x y x0 x1 y0 y1 e
  have hx := h x x0 x1
  have hy := h y y0 y1
  exact inj x y x0 x1 y0 y1 (ih _ _ hx.1 hx.2 hy.1 hy.2 e)
theorem steps_add (s : Int → Int) (a b : Nat) : ∀ x, steps s (a + b) x = steps s a (steps s b x) := by
 induction b with
 | zero => intro x; rfl
 | succ b ih => intro x; rw [← Nat.add_assoc, steps, ih]; rfl
theorem steps_return {s : Int → Int} {n : Nat} (h : ∀ x : Int, 0 ≤ x → x < n → 0 ≤ s x ∧ s x < n) (inj : ∀ x y : Int, 0 ≤ x → x < n → 0 ≤ y → y < n → s x = s y → x = y) {x : Int} (x0 : 0 ≤ x) (x1 : x < n) :
  ∃ m, 0 < m ∧ m ≤ n ∧ steps s m x = x := by
 obtain ⟨a, b, hab, hb, e⟩ := pigeon n (fun k => steps s k x) (fun k _ => steps_in h k x x0 x1)
 refine ⟨b - a, by omega, by omega, ?_⟩
 have e2 : steps s a x = steps s a (steps s (b - a) x) := by rw [← steps_add, show a + (b - a) = b by omega]; exact e
 have hi := steps_in h (b - a) x x0 x1
 exact (steps_back h inj a x _ x0 x1 hi.1 hi.2 e2).symm
def wy (T B : Int → Int) (a : Int) : Nat → List Int → Int → Option (List Int)
 | 0, _, _ => none
 | d + 1, out, i => if B (T i) = a then some (out ++ [i, T i]) else wy T B a d (out ++ [i, T i]) (B (T i))
theorem wy_length (T B : Int → Int) (a : Int) (d : Nat) : ∀ out i r, wy T B a d out i = some r → r.length ≤ out.length + 2 * d := by
 induction d with
 | zero => intro out i r h; cases h
 | succ d ih =>
  intro out i r h
  unfold wy at h
  split at h
  ·obtain rfl := Option.some.inj h; simp; omega
  ·have := ih _ _ _ h; simp at this; omega
theorem wy_some (T B : Int → Int) (a : Int) (d : Nat) : ∀ (out : List Int) i, steps (fun x => B (T x)) d i = a → 0 < d → ∃ r, wy T B a d out i = some r := by
 induction d with
 | zero => intro out i _ h; omega
 | succ d ih =>
  intro out i h _
  unfold wy
  by_cases e : B (T i) = a
  ·rw [if_pos e]; exact ⟨_, rfl⟩
  ·rw [if_neg e]
   rcases d with _ | d
   ·exact absurd h e
   ·exact ih _ _ h (by omega)
theorem wy_more (T B : Int → Int) (a : Int) (d : Nat) : ∀ (out : List Int) i r, wy T B a d out i = some r → wy T B a (d + 1) out i = some r := by
 induction d with
 | zero => intro out i r h; cases h
 | succ d ih =>
  intro out i r h
  unfold wy at h ⊢
  split at h
  ·rename_i e; rw [if_pos e]; exact h
  ·rename_i e; rw [if_neg e]; exact ih _ _ _ h
theorem wy_le (T B : Int → Int) (a : Int) {d e : Nat} (hde : d ≤ e) {out : List Int} {i : Int} {r : List Int} (h : wy T B a d out i = some r) : wy T B a e out i = some r := by
 obtain ⟨c, rfl⟩ : ∃ c, e = d + c := ⟨e - d, by omega⟩
 clear hde
 induction c with
 | zero => exact h
 | succ c ih => exact wy_more T B a _ out i r ih
structure Two (l m : List Int) : Prop where
 len : l.length = m.length
 small : l.length ≤ 12
 top : Pl.Sys l.length (rd l)
 bot : Pl.Sys l.length (rd m)
theorem Two.next {l m : List Int} (h : Two l m) : ∀ x : Int, 0 ≤ x → x < (l.length : Nat) → 0 ≤ rd m (rd l x) ∧ rd m (rd l x) < (l.length : Nat) := fun x a b =>
 have c := h.top.lo x a b
 have d := h.top.hi x a b
 ⟨h.bot.lo _ c d, h.bot.hi _ c d⟩
theorem Two.inj {l m : List Int} (h : Two l m) : ∀ x y : Int, 0 ≤ x → x < (l.length : Nat) → 0 ≤ y → y < (l.length : Nat) → rd m (rd l x) = rd m (rd l y) → x = y := by
 intro x y x0 x1 y0 y1 e
 have e2 : rd l x = rd l y := by
  have a := h.bot.inv _ (h.top.lo x x0 x1) (h.top.hi x x0 x1)
  have b := h.bot.inv _ (h.top.lo y y0 y1) (h.top.hi y y0 y1)
  rw [← a, e, b]
 have a := h.top.inv x x0 x1
 have b := h.top.inv y y0 y1
 rw [← a, e2, b]
theorem Two.way {l m : List Int} (h : Two l m) {a : Int} (a0 : 0 ≤ a) (a1 : a < l.length) : ∃ r, wy (rd l) (rd m) a l.length [] a = some r := by
 obtain ⟨k, k0, k1, e⟩ := steps_return h.next h.inj a0 a1
 obtain ⟨r, hr⟩ := wy_some (rd l) (rd m) a k [] a e k0
 exact ⟨r, wy_le _ _ _ k1 hr⟩
theorem way_l {l m : List Int} (h : Two l m) (a : Int) (d : Nat) : ∀ (out : List Int) (i : Int) r, 0 ≤ i → i < l.length → out.length + 2 * d ≤ 1048576 → wy (rd l) (rd m) a d out i = some r →
  impl_Meander_way.l0 d a out i l m = some r := by
 induction d with
 | zero => intro out i r _ _ _ h; cases h
 | succ d ih =>
  intro out i r i0 i1 ho hr
  have t0 := h.top.lo i i0 i1
  have t1 := h.top.hi i i0 i1
  have b0 := h.next i i0 i1
  have hl := h.len
  simp only [impl_Meander_way.l0]
  rw [if_pos i0, if_pos i1]
  simp only [Option.bind_some]
  rw [if_pos (by simp; omega), if_pos t0, if_pos (by omega)]
  unfold wy at hr
  split at hr
  ·rename_i e
   rw [if_pos e]; exact hr
  ·rename_i e
   rw [if_neg e]
   exact ih _ _ _ b0.1 b0.2 (by simp; omega) hr
def wayL (l m : List Int) (a : Int) : List Int := (wy (rd l) (rd m) a l.length [] a).getD []
theorem wayL_eq {l m : List Int} (h : Two l m) {a : Int} (a0 : 0 ≤ a) (a1 : a < l.length) : wy (rd l) (rd m) a l.length [] a = some (wayL l m a) := by
 obtain ⟨r, hr⟩ := h.way a0 a1
 unfold wayL; rw [hr]; rfl
theorem wayL_length {l m : List Int} (h : Two l m) {a : Int} (a0 : 0 ≤ a) (a1 : a < l.length) : (wayL l m a).length ≤ 24 := by
 have h1 := wy_length _ _ _ _ _ _ _ (wayL_eq h a0 a1)
 have h2 := h.small
 simp only [List.length_nil] at h1
 omega
theorem way_any {l m : List Int} (h : Two l m) {a : Int} (a0 : 0 ≤ a) (a1 : a < l.length) : (∃ K, ∀ k, K ≤ k → impl_Meander_way.f k l m a = some (wayL l m a)) := by
 have hs := h.small
 refine ⟨l.length, fun k hk => ?_⟩
 unfold impl_Meander_way.f
 refine at_rounds (g := fun k => impl_Meander_way.l0 k a [] a l m) (fun k => ?_) hk (way_l h a l.length [] a _ a0 a1 (by simp; omega) (wayL_eq h a0 a1))
 exact impl_Meander_way.mono l m a k
theorem pairB_two {l m : List Int} (h : pairB l m = true) : Two l m := by
 simp only [pairB, Bool.and_eq_true, decide_eq_true_eq] at h
 obtain ⟨⟨h1, h2⟩, h3⟩ := h
 have h1 := tf_iff.1 h1
 have h2 := tf_iff.1 h2
 exact ⟨h3, h1.1, h1.2, by rw [h3]; exact h2.2⟩
theorem wy_in {l m : List Int} (h : Two l m) (a : Int) (d : Nat) : ∀ (out : List Int) (i : Int) r, 0 ≤ i → i < l.length → (∀ x ∈ out, 0 ≤ x ∧ x < l.length) → wy (rd l) (rd m) a d out i = some r →
  (∀ x ∈ r, 0 ≤ x ∧ x < l.length) ∧ (∀ x ∈ out, x ∈ r) ∧ i ∈ r := by
 induction d with
 | zero => intro out i r _ _ _ h; cases h
 | succ d ih =>
  intro out i r i0 i1 ho hr
  have t0 := h.top.lo i i0 i1
  have t1 := h.top.hi i i0 i1
  have b0 := h.next i i0 i1
  have hin : ∀ x ∈ out ++ [i, rd l i], 0 ≤ x ∧ x < l.length := by
   intro x hx
   rcases List.mem_append.1 hx with hx | hx
   ·exact ho x hx
   ·simp at hx
    rcases hx with rfl | rfl
    ·exact ⟨i0, i1⟩
    ·exact ⟨t0, t1⟩
  unfold wy at hr
  split at hr
  ·obtain rfl := Option.some.inj hr
   exact ⟨hin, fun x hx => List.mem_append_left _ hx, by simp⟩
  ·obtain ⟨a1, a2, _⟩ := ih _ _ _ b0.1 b0.2 hin hr
   exact ⟨a1, fun x hx => a2 x (List.mem_append_left _ hx), a2 i (by simp)⟩
theorem wayL_in {l m : List Int} (h : Two l m) {a : Int} (a0 : 0 ≤ a) (a1 : a < l.length) : (∀ x ∈ wayL l m a, 0 ≤ x ∧ x < l.length) ∧ a ∈ wayL l m a := by
 have := wy_in h a l.length [] a _ a0 a1 (by simp) (wayL_eq h a0 a1)
 exact ⟨this.1, this.2.2⟩
def paint (c : Int) : List Int → List Int → List Int
 | [], x => x
 | k :: w, x => paint c w (x.set k.toNat c)
theorem paint_length (c : Int) (w : List Int) : ∀ x, (paint c w x).length = x.length := by
 induction w with
 | nil => intro x; rfl
 | cons k w ih => intro x; unfold paint; rw [ih]; simp
theorem paint_rd (c : Int) (w : List Int) : ∀ (x : List Int), (∀ k ∈ w, 0 ≤ k ∧ k < x.length) → ∀ j : Int, 0 ≤ j → rd (paint c w x) j = if j ∈ w then c else rd x j := by
 induction w with
 | nil => intro x _ j _; simp [paint]
 | cons k w ih =>
  intro x hw j hj
  unfold paint
  have hk := hw k (List.mem_cons_self ..)
  rw [ih _ (fun y hy => by have := hw y (List.mem_cons_of_mem _ hy); simpa using this) j hj, rd_set x k j c hk.1 hk.2 hj]
  by_cases e1 : j ∈ w
  ·simp [e1]
  ·by_cases e2 : j = k <;> simp [e1, e2]
def cvL (l m : List Int) : Nat → List Int → Int → Int → List Int × Int
 | 0, out, c, _ => (out, c)
 | d + 1, out, c, i => if rd out i ≥ 0 then cvL l m d out c (i + 1) else cvL l m d (paint c (wayL l m i) out) (c + 1) (i + 1)
structure Hue (out : List Int) (c : Int) : Prop where
 lo : ∀ j : Int, 0 ≤ j → j < out.length → -1 ≤ rd out j
 hi : ∀ j : Int, 0 ≤ j → j < out.length → rd out j < c
 top : c = 0 ∨ ∃ j : Int, 0 ≤ j ∧ j < out.length ∧ rd out j = c - 1
theorem Hue.paint {l m : List Int} (h : Two l m) {out : List Int} {c i : Int} (hu : Hue out c) (hc : 0 ≤ c) (ho : out.length = l.length) (i0 : 0 ≤ i) (i1 : i < l.length) : Hue (paint c (wayL l m i) out) (c + 1) := by
 obtain ⟨hw, hi⟩ := wayL_in h i0 i1
 have hp := fun j hj => paint_rd c (wayL l m i) out (fun k hk => by rw [ho]; exact hw k hk) j hj
 refine ⟨fun j h0 h1 => ?_, fun j h0 h1 => ?_, .inr ⟨i, i0, by rw [paint_length]; omega, ?_⟩⟩
 ·rw [paint_length] at h1
  rw [hp j h0]
  split
  ·omega
  ·exact hu.lo j h0 h1
 ·rw [paint_length] at h1
  rw [hp j h0]
  split
  ·omega
  ·have := hu.hi j h0 h1; omega
 ·rw [hp i i0, if_pos hi]; omega
theorem cvL_hue {l m : List Int} (h : Two l m) (d : Nat) : ∀ (out : List Int) (c i : Int), Hue out c → 0 ≤ c → c ≤ i → out.length = l.length → 0 ≤ i → (l.length : Int) = i + d →
  Hue (cvL l m d out c i).1 (cvL l m d out c i).2 ∧ (cvL l m d out c i).1.length = l.length ∧ 0 ≤ (cvL l m d out c i).2 ∧ (cvL l m d out c i).2 ≤ l.length := by
 induction d with
 | zero => intro out c i hu hc hci ho i0 hd; exact ⟨hu, ho, hc, by show c ≤ _; omega⟩
 | succ d ih =>
  intro out c i hu hc hci ho i0 hd
  unfold cvL
  split
  ·exact ih out c (i + 1) hu hc (by omega) ho (by omega) (by omega)
  ·exact ih _ (c + 1) (i + 1) (hu.paint h hc ho i0 (by omega)) (by omega) (by omega) (by rw [paint_length]; exact ho) (by omega) (by omega)
def coloursOf (l m : List Int) : List Int × Int := cvL l m l.length (List.replicate l.length (-1)) 0 0
theorem rd_replicate (n : Nat) (v j : Int) (h0 : 0 ≤ j) (h1 : j < n) : rd (List.replicate n v) j = v := by
 unfold rd
 rw [List.getD_eq_getElem?_getD, List.getElem?_replicate, if_pos (by omega)]; rfl
theorem coloursOf_hue {l m : List Int} (h : Two l m) : Hue (coloursOf l m).1 (coloursOf l m).2 ∧ (coloursOf l m).1.length = l.length ∧ 0 ≤ (coloursOf l m).2 ∧ (coloursOf l m).2 ≤ l.length :=
 cvL_hue h l.length (List.replicate l.length (-1)) 0 0 ⟨fun j h0 h1 => by rw [rd_replicate _ _ _ h0 (by simpa using h1)]; omega, fun j h0 h1 => by rw [rd_replicate _ _ _ h0 (by simpa using h1)]; omega, .inl rfl⟩ (by omega) (by omega) (by simp) (by omega) (by omega)
theorem curves_l1 {l m : List Int} {R : List Int × Int} (w : List Int) (c i : Int) (n : Int) (hc : 0 ≤ c) (hc2 : c ≤ 1048576) (hi : 0 ≤ i) (hi2 : i ≤ 1048576) (hw2 : w.length ≤ 1048576) (d : Nat) :
  ∀ (x : List Int) (j : Int), 0 ≤ j → (w.length : Int) = j + d → (∀ k ∈ w, 0 ≤ k ∧ k < x.length) → (∃ K, ∀ k, K ≤ k → impl_Meander_curves.l0 k (paint c (w.drop j.toNat) x) (c + 1) n (i + 1) l m = some (R)) →
  (∃ K, ∀ k, K ≤ k → impl_Meander_curves.l1 k x c n i w w.length j l m = some (R)) := by
 induction d with
 | zero =>
  intro x j h0 hd hw ⟨K, h⟩
  refine ev_rs K fun m hm => ?_
  simp (disch := omega) only [impl_Meander_curves.l1, if_neg, w64]
  rw [List.drop_of_length_le (by omega)] at h
  exact h m hm
 | succ d ih =>
  intro x j h0 hd hw h
  have hk := hw _ (rd_mem w j h0 (by omega))
  have e : w.drop j.toNat = rd w j :: w.drop (j + 1).toNat := by
   rw [List.drop_eq_getElem_cons (by omega), ← rd_get w j.toNat (by omega), show ((j.toNat : Nat) : Int) = j by omega, show (j + 1).toNat = j.toNat + 1 by omega]
  rw [e] at h
  obtain ⟨K, h⟩ := ih (x.set (rd w j).toNat c) (j + 1) (by omega) (by omega) (fun k hk => by simpa using hw k hk) h
  refine ev_rs K fun m hm => ?_
  simp (disch := omega) only [impl_Meander_curves.l1, if_pos, w64]
  exact h m hm
theorem curves_l0 {l m : List Int} (h : Two l m) (d : Nat) : ∀ (out : List Int) (c i : Int), 0 ≤ c → c ≤ i → 0 ≤ i → (l.length : Int) = i + d → out.length = l.length →
  (∃ K, ∀ k, K ≤ k → impl_Meander_curves.l0 k out c l.length i l m = some (cvL l m d out c i)) := by
 have hs := h.small
 induction d with
 | zero =>
  intro out c i hc hci h0 hd ho
  refine ev_rs 0 fun m _ => ?_
  simp (disch := omega) only [impl_Meander_curves.l0, if_neg, cvL]
 | succ d ih =>
  intro out c i hc hci h0 hd ho
  by_cases hr : rd out i ≥ 0
  ·obtain ⟨K, ih⟩ := ih out c (i + 1) hc (by omega) (by omega) (by omega) ho
   refine ev_rs K fun n hn => ?_
   simp (disch := omega) only [impl_Meander_curves.l0, if_pos, w64, cvL]
   exact ih n hn
  ·obtain ⟨hw, hm⟩ := wayL_in h h0 (show i < l.length by omega)
   have hwl := wayL_length h h0 (show i < l.length by omega)
   obtain ⟨K1, h1⟩ := way_any h h0 (show i < l.length by omega)
   obtain ⟨K2, h2⟩ := curves_l1 (R := cvL l m (d + 1) out c i) (l := l) (m := m) (wayL l m i) c i l.length hc (by omega) h0 (by omega) (by omega) (wayL l m i).length out 0 (by omega) (by omega) (fun k hk => by rw [ho]; exact hw k hk) (by
    have := ih (paint c (wayL l m i) out) (c + 1) (i + 1) (by omega) (by omega) (by omega) (by omega) (by rw [paint_length]; exact ho)
    simp only [Int.toNat_zero, List.drop_zero, cvL, if_neg hr]
    exact this)
   refine ev_rs (K1 + K2) fun n hn => ?_
   simp (disch := omega) only [impl_Meander_curves.l0, if_pos, if_neg, h1, Option.bind_some]
   exact h2 n (by omega)
theorem curves_any {l m : List Int} (h : Two l m) : (∃ K, ∀ k, K ≤ k → impl_Meander_curves.f k l m = some (coloursOf l m)) := by
 have hs := h.small
 obtain ⟨K, hK⟩ := curves_l0 h l.length (List.replicate l.length (-1)) 0 0 (by omega) (by omega) (by omega) (by omega) (by simp)
 refine ⟨K, fun k hk => ?_⟩
 unfold impl_Meander_curves.f slices_Repeat_int_int.f
 rw [if_pos (show ([(-1 : Int)]).length = 1 from rfl), if_pos (show (0 : Int) ≤ l.length by omega), if_pos (show (l.length : Int) ≤ 12 by omega), Int.toNat_natCast, Option.bind_some, show rd [(-1 : Int)] 0 = -1 from rfl]
 have := hK k hk
 rw [List.length_replicate]
 exact this
noncomputable def compR (l m : List Int) : Int × Bool := if pairB l m = true then ((coloursOf l m).2, true) else (0, false)
theorem implComp_any (l m : List Int) (hl : l.length ≤ 1048576) (hm : m.length ≤ 1048576) : (∃ K, ∀ k, K ≤ k → impl_ComponentsOf.f k l m = some (compR l m)) := by
 obtain ⟨K1, h1⟩ := IsPair_any l m (by omega) (by omega)
 by_cases h : pairB l m = true
 ·obtain ⟨K2, h2⟩ := curves_any (pairB_two h)
  exact ⟨K1 + K2, fun k hk => by simp (disch := omega) only [impl_ComponentsOf.f, impl_Meander_components.f, h1, h, h2, Option.bind_some, compR, if_true]⟩
 ·exact ⟨K1, fun k hk => by simp (disch := omega) only [impl_ComponentsOf.f, h1, h, Option.bind_some, compR, if_false, Bool.false_eq_true]⟩
structure Chain (T B : Int → Int) (a : Int) (out : List Int) (i : Int) : Prop where
 even : out.length % 2 = 0
 top : ∀ k : Nat, k % 2 = 0 → k + 1 < out.length → rd out ((k + 1 : Nat) : Int) = T (rd out (k : Nat))
 bot : ∀ k : Nat, k % 2 = 0 → k + 2 < out.length → rd out ((k + 2 : Nat) : Int) = B (rd out ((k + 1 : Nat) : Int))
 first : out = [] → i = a
 head : out ≠ [] → rd out 0 = a
 next : ∀ k : Nat, k % 2 = 0 → k + 2 = out.length → i = B (rd out ((k + 1 : Nat) : Int))
theorem rd_app2 (out : List Int) (x y : Int) (k : Nat) : rd (out ++ [x, y]) (k : Nat) = if k < out.length then rd out (k : Nat) else if k = out.length then x else if k = out.length + 1 then y else 0 := by
 unfold rd
 rw [Int.toNat_natCast, List.getD_eq_getElem?_getD, List.getD_eq_getElem?_getD]
 by_cases h : k < out.length
 ·rw [if_pos h, List.getElem?_append_left h]
 ·rw [if_neg h, List.getElem?_append_right (by omega)]
  by_cases h1 : k = out.length
  ·rw [if_pos h1, h1, Nat.sub_self]; rfl
  ·rw [if_neg h1]
   by_cases h2 : k = out.length + 1
   ·rw [if_pos h2, h2, Nat.add_sub_cancel_left]; rfl
   ·rw [if_neg h2, List.getElem?_eq_none (by simp; omega)]; rfl
theorem Chain.push {T B : Int → Int} {a : Int} {out : List Int} {i : Int} (h : Chain T B a out i) : Chain T B a (out ++ [i, T i]) (B (T i)) := by
 have hl : (out ++ [i, T i]).length = out.length + 2 := by simp
 have he := h.even
 constructor
 ·rw [hl]; omega
 ·intro k h0 h1
  rw [hl] at h1
  rw [rd_app2, rd_app2]
  by_cases c : k + 1 < out.length
  ·rw [if_pos c, if_pos (by omega)]; exact h.top k h0 c
  ·rw [if_neg c, if_neg (by omega), if_pos (by omega), if_neg (by omega), if_pos (by omega)]
 ·intro k h0 h1
  rw [hl] at h1
  rw [rd_app2, rd_app2]
  by_cases c : k + 2 < out.length
  ·rw [if_pos c, if_pos (by omega)]; exact h.bot k h0 c
  ·rw [if_neg c, if_pos (by omega), if_pos (by omega)]; exact h.next k h0 (by omega)
 ·intro h0; simp at h0
 ·intro _
  have e := rd_app2 out i (T i) 0
  rw [show (((0 : Nat) : Int)) = 0 from rfl] at e
  rw [e]
  by_cases c : 0 < out.length
  ·rw [if_pos c]; exact h.head (by intro h0; rw [h0] at c; simp at c)
  ·rw [if_neg c, if_pos (by omega)]; exact h.first (List.eq_nil_of_length_eq_zero (by omega))
 ·intro k h0 h1
  rw [hl] at h1
  rw [rd_app2, if_neg (by omega), if_neg (by omega), if_pos (by omega)]
structure Round (T B : Int → Int) (a : Int) (r : List Int) : Prop where
 even : r.length % 2 = 0
 pos : 0 < r.length
 top : ∀ k : Nat, k % 2 = 0 → k + 1 < r.length → rd r ((k + 1 : Nat) : Int) = T (rd r (k : Nat))
 bot : ∀ k : Nat, k % 2 = 0 → k + 1 < r.length → rd r (((k + 2) % r.length : Nat) : Int) = B (rd r ((k + 1 : Nat) : Int))
 head : rd r 0 = a
theorem wy_round (T B : Int → Int) (a : Int) (d : Nat) : ∀ (out : List Int) (i : Int) (r : List Int), Chain T B a out i → wy T B a d out i = some r → Round T B a r := by
 induction d with
 | zero => intro out i r _ h; cases h
 | succ d ih =>
  intro out i r hc h
  unfold wy at h
  have hp := hc.push
  split at h
  ·rename_i e
   obtain rfl := Option.some.inj h
   have hl : (out ++ [i, T i]).length = out.length + 2 := by simp
   have hh := hp.head (by simp)
   refine ⟨hp.even, by rw [hl]; omega, hp.top, fun k h0 h1 => ?_, hh⟩
   by_cases c : k + 2 < (out ++ [i, T i]).length
   ·rw [Nat.mod_eq_of_lt c]; exact hp.bot k h0 c
   ·have e2 : k + 2 = (out ++ [i, T i]).length := by have := hp.even; omega
    rw [e2, Nat.mod_self]
    have := hp.next k h0 e2
    rw [e] at this
    exact hh.trans this
  ·exact ih _ _ _ hp h
theorem wayL_round {l m : List Int} (h : Two l m) {a : Int} (a0 : 0 ≤ a) (a1 : a < l.length) : Round (rd l) (rd m) a (wayL l m a) := by
 refine wy_round (rd l) (rd m) a l.length [] a _ ⟨rfl, ?_, ?_, fun _ => rfl, fun h => absurd rfl h, ?_⟩ (wayL_eq h a0 a1)
 ·intro k _ h; simp at h
 ·intro k _ h; simp at h
 ·intro k _ h; simp at h
def Inv (l m : List Int) (f : Int → Int) : Prop := ∀ x : Int, 0 ≤ x → x < (l.length : Nat) → f (rd l x) = f x ∧ f (rd m x) = f x
theorem wy_f {l m : List Int} (h : Two l m) {f : Int → Int} (hf : Inv l m f) (a : Int) (d : Nat) : ∀ (out : List Int) (i : Int) r, 0 ≤ i → i < l.length → (∀ x ∈ out, f x = f a) → f i = f a → wy (rd l) (rd m) a d out i = some r → ∀ x ∈ r, f x = f a := by
 induction d with
 | zero => intro out i r _ _ _ _ h; cases h
 | succ d ih =>
  intro out i r i0 i1 ho hi hr
  have t0 := h.top.lo i i0 i1
  have t1 := h.top.hi i i0 i1
  have b0 := h.next i i0 i1
  have e1 := (hf i i0 i1).1
  have e2 := (hf _ t0 t1).2
  have hin : ∀ x ∈ out ++ [i, rd l i], f x = f a := by
   intro x hx
   rcases List.mem_append.1 hx with hx | hx
   ·exact ho x hx
   ·simp at hx
    rcases hx with rfl | rfl
    ·exact hi
    ·exact e1.trans hi
  unfold wy at hr
  split at hr
  ·obtain rfl := Option.some.inj hr
   exact hin
  ·exact ih _ _ _ b0.1 b0.2 hin (e2.trans (e1.trans hi)) hr
theorem way_f {l m : List Int} (h : Two l m) {f : Int → Int} (hf : Inv l m f) {a : Int} (a0 : 0 ≤ a) (a1 : a < l.length) : ∀ x ∈ wayL l m a, f x = f a :=
 wy_f h hf a l.length [] a _ a0 a1 (by simp) rfl (wayL_eq h a0 a1)
theorem rd_mem_iff {r : List Int} {x : Int} (h : x ∈ r) : ∃ k : Nat, k < r.length ∧ rd r (k : Nat) = x := by
 obtain ⟨k, hk, e⟩ := List.getElem_of_mem h
 exact ⟨k, hk, by rw [rd_get r k hk]; exact e⟩
theorem rd_in {r : List Int} {k : Nat} (h : k < r.length) : rd r (k : Nat) ∈ r := by rw [rd_get r k h]; exact List.getElem_mem h
theorem way_shut {l m : List Int} (h : Two l m) {a : Int} (a0 : 0 ≤ a) (a1 : a < l.length) {x : Int} (hx : x ∈ wayL l m a) : rd l x ∈ wayL l m a ∧ rd m x ∈ wayL l m a := by
 have hr := wayL_round h a0 a1
 have hin := (wayL_in h a0 a1).1
 generalize wayL l m a = r at *
 have he := hr.even
 have hp := hr.pos
 have hlen := h.len
 obtain ⟨k, hk, rfl⟩ := rd_mem_iff hx
 rcases Nat.mod_two_eq_zero_or_one k with e | e
 ·refine ⟨?_, ?_⟩
  ·rw [← hr.top k e (by omega)]; exact rd_in (by omega)
  ·have : ∃ q : Nat, q % 2 = 0 ∧ q + 1 < r.length ∧ (q + 2) % r.length = k := by
    by_cases k0 : k = 0
    ·subst k0
     exact ⟨r.length - 2, by omega, by omega, by rw [show r.length - 2 + 2 = r.length by omega, Nat.mod_self]⟩
    ·exact ⟨k - 2, by omega, by omega, by rw [show k - 2 + 2 = k by omega, Nat.mod_eq_of_lt hk]⟩
   obtain ⟨q, q0, q1, q2⟩ := this
   have hb := hr.bot q q0 q1
   rw [q2] at hb
   have hy := hin _ (rd_in (r := r) (k := q + 1) q1)
   rw [hb, h.bot.inv _ hy.1 (by have := hy.2; omega)]
   exact rd_in q1
 ·obtain ⟨q, rfl⟩ : ∃ q, k = q + 1 := ⟨k - 1, by omega⟩
  have q0 : q % 2 = 0 := by omega
  have hy := hin _ (rd_in (r := r) (k := q) (by omega))
  refine ⟨?_, ?_⟩
  ·rw [hr.top q q0 hk, h.top.inv _ hy.1 hy.2]; exact rd_in (by omega)
  ·rw [← hr.bot q q0 hk]; exact rd_in (Nat.mod_lt _ (by omega))
structure Col (l m out : List Int) (c i : Int) : Prop where
 len : out.length = l.length
 rng : ∀ j : Int, 0 ≤ j → j < l.length → -1 ≤ rd out j ∧ rd out j < c
 sur : ∀ k : Int, 0 ≤ k → k < c → ∃ j : Int, 0 ≤ j ∧ j < l.length ∧ rd out j = k
 inv : Inv l m (rd out)
 fac : ∀ f : Int → Int, Inv l m f → ∀ x y : Int, 0 ≤ x → x < l.length → 0 ≤ y → y < l.length → 0 ≤ rd out x → rd out x = rd out y → f x = f y
 done : ∀ j : Int, 0 ≤ j → j < i → j < l.length → 0 ≤ rd out j
theorem Col.paint {l m out : List Int} {c i : Int} (h : Two l m) (hc : Col l m out c i) (c0 : 0 ≤ c) (i0 : 0 ≤ i) (i1 : i < l.length) (hi : ¬ rd out i ≥ 0) : Col l m (paint c (wayL l m i) out) (c + 1) (i + 1) := by
 obtain ⟨hw, hiw⟩ := wayL_in h i0 i1
 have hf := fun f (hf : Inv l m f) => way_f h hf i0 i1
 have hsh := fun x hx => way_shut h i0 i1 (x := x) hx
 have hp := fun j hj => paint_rd c (wayL l m i) out (fun k hk => by rw [hc.len]; exact hw k hk) j hj
 have hun := hf (rd out) hc.inv
 generalize wayL l m i = W at *
 have hno : ∀ x : Int, 0 ≤ x → x < l.length → x ∉ W → rd l x ∉ W ∧ rd m x ∉ W := by
  intro x x0 x1 hx
  refine ⟨fun g => hx ?_, fun g => hx ?_⟩
  ·have := (hsh _ g).1; rwa [h.top.inv x x0 x1] at this
  ·have := (hsh _ g).2; rwa [h.bot.inv x x0 x1] at this
 refine ⟨by rw [paint_length]; exact hc.len, fun j j0 j1 => ?_, fun k k0 k1 => ?_, fun x x0 x1 => ?_, fun f hF x y x0 x1 y0 y1 hx hxy => ?_, fun j j0 j1 j2 => ?_⟩
 ·have := hc.rng j j0 j1
  rw [hp j j0]; split <;> omega
 ·by_cases e : k = c
  ·subst e; exact ⟨i, i0, i1, by rw [hp i i0, if_pos hiw]⟩
  ·obtain ⟨j, j0, j1, hj⟩ := hc.sur k k0 (by omega)
   refine ⟨j, j0, j1, ?_⟩
   rw [hp j j0, if_neg (fun g => by have := hun j g; omega)]
   exact hj
 ·have t0 := h.top.lo x x0 x1
  have b0 := h.bot.lo x x0 x1
  have e := hc.inv x x0 x1
  rw [hp x x0, hp _ t0, hp _ b0]
  by_cases g : x ∈ W
  ·have s := hsh x g
   rw [if_pos g, if_pos s.1, if_pos s.2]; exact ⟨rfl, rfl⟩
  ·have s := hno x x0 x1 g
   rw [if_neg g, if_neg s.1, if_neg s.2]; exact e
 ·rw [hp x x0] at hx hxy
  rw [hp y y0] at hxy
  have r1 := hc.rng x x0 x1
  have r2 := hc.rng y y0 y1
  by_cases g1 : x ∈ W
  ·by_cases g2 : y ∈ W
   ·rw [hf f hF x g1, hf f hF y g2]
   ·rw [if_pos g1, if_neg g2] at hxy; omega
  ·by_cases g2 : y ∈ W
   ·rw [if_neg g1, if_pos g2] at hxy; omega
   ·rw [if_neg g1] at hx hxy
    rw [if_neg g2] at hxy
    exact hc.fac f hF x y x0 x1 y0 y1 hx hxy
 ·rw [hp j j0]
  split
  ·exact c0
  ·rename_i g
   refine hc.done j j0 ?_ j2
   have : j ≠ i := fun e => g (e ▸ hiw)
   omega
theorem cvL_col {l m : List Int} (h : Two l m) (d : Nat) : ∀ (out : List Int) (c i : Int), Col l m out c i → 0 ≤ c → 0 ≤ i → (l.length : Int) = i + d → Col l m (cvL l m d out c i).1 (cvL l m d out c i).2 (i + d) := by
 induction d with
 | zero => intro out c i hc c0 i0 hd; unfold cvL; rw [show i + ((0 : Nat) : Int) = i by omega]; exact hc
 | succ d ih =>
  intro out c i hc c0 i0 hd
  unfold cvL
  rw [show i + ((d + 1 : Nat) : Int) = (i + 1) + (d : Nat) by omega]
  split
  ·rename_i hi
   refine ih out c (i + 1) ⟨hc.len, hc.rng, hc.sur, hc.inv, hc.fac, fun j j0 j1 j2 => ?_⟩ c0 (by omega) (by omega)
   by_cases e : j = i
   ·subst e; exact hi
   ·exact hc.done j j0 (by omega) j2
  ·rename_i hi
   exact ih _ (c + 1) (i + 1) (hc.paint h c0 i0 (by omega) hi) (by omega) (by omega) (by omega)
theorem coloursOf_col {l m : List Int} (h : Two l m) : Col l m (coloursOf l m).1 (coloursOf l m).2 l.length := by
 have := cvL_col h l.length (List.replicate l.length (-1)) 0 0 ⟨by simp, fun j h0 h1 => by rw [rd_replicate _ _ _ h0 h1]; omega, fun k k0 k1 => by omega, fun x x0 x1 => by
  have t0 := h.top.lo x x0 x1
  have t1 := h.top.hi x x0 x1
  have b0 := h.bot.lo x x0 x1
  have b1 := h.bot.hi x x0 x1
  rw [rd_replicate _ _ _ x0 x1, rd_replicate _ _ _ t0 t1, rd_replicate _ _ _ b0 b1]; exact ⟨rfl, rfl⟩, fun f _ x y x0 x1 _ _ g => by rw [rd_replicate _ _ _ x0 x1] at g; omega, fun j j0 j1 => by omega⟩ (by omega) (by omega) (by omega)
 rw [show (0 : Int) + (l.length : Nat) = (l.length : Nat) by omega] at this
 exact this
theorem cnt_ge {l m : List Int} (h : Two l m) {f : Int → Int} (hf : Inv l m f) {K : Int} (hs : ∀ k : Int, 0 ≤ k → k < K → ∃ j : Int, 0 ≤ j ∧ j < l.length ∧ f j = k) : K ≤ (coloursOf l m).2 := by
 have hc := coloursOf_col h
 have c0 := (coloursOf_hue h).2.2.1
 rcases Int.lt_or_le (coloursOf l m).2 K with hlt | hle
 ·exfalso
  have hs' : ∀ k : Nat, ∃ j : Int, (k : Int) < K → 0 ≤ j ∧ j < l.length ∧ f j = (k : Int) := fun k => by
   by_cases hk : (k : Int) < K
   ·obtain ⟨j, hj⟩ := hs k (by omega) hk
    exact ⟨j, fun _ => hj⟩
   ·exact ⟨0, fun g => absurd g hk⟩
  obtain ⟨p, hp⟩ := Classical.axiomOfChoice hs'
  obtain ⟨a, b, hab, hb, e⟩ := pigeon (coloursOf l m).2.toNat (fun k => rd (coloursOf l m).1 (p k)) (fun k hk => by
   obtain ⟨p0, p1, _⟩ := hp k (by omega)
   have := hc.rng _ p0 p1
   have := hc.done _ p0 p1 p1
   omega)
  obtain ⟨a0, a1, ea⟩ := hp a (by omega)
  obtain ⟨b0, b1, eb⟩ := hp b (by omega)
  have := hc.fac f hf _ _ a0 a1 b0 b1 (hc.done _ a0 a1 a1) e
  omega
 ·exact hle
def mvd (φ : Int → Int) (l : List Int) : Nat → List Int → Int → List Int
 | 0, out, _ => out
 | d + 1, out, i => mvd φ l d (out.set (φ i).toNat (φ (rd l i))) (i + 1)
theorem mvd_length (φ : Int → Int) (l : List Int) (d : Nat) : ∀ out i, (mvd φ l d out i).length = out.length := by
 induction d with
 | zero => intro out i; rfl
 | succ d ih => intro out i; unfold mvd; rw [ih]; simp
theorem moved_l (Φ : Int → Option Int) (φ : Int → Int) (l : List Int) (hn : l.length < 4611686018427387904) (h1 : ∀ j : Int, 0 ≤ j → j < l.length → Φ j = some (φ j) ∧ 0 ≤ φ j ∧ φ j < l.length) (h2 : ∀ j : Int, 0 ≤ j → j < l.length → Φ (rd l j) = some (φ (rd l j))) (d : Nat) :
  ∀ (out : List Int) (i : Int), 0 ≤ i → (l.length : Int) = i + d → out.length = l.length → (∃ K, ∀ k, K ≤ k → impl_moved.l0 Φ k out l l.length i = some (mvd φ l d out i)) := by
 induction d with
 | zero =>
  intro out i h0 hd ho
  refine ev_rs 0 fun m _ => ?_
  simp (disch := omega) only [impl_moved.l0, if_neg, mvd]
 | succ d ih =>
  intro out i h0 hd ho
  obtain ⟨e1, e2, e3⟩ := h1 i h0 (by omega)
  have e4 := h2 i h0 (by omega)
  obtain ⟨K, ih⟩ := ih (out.set (φ i).toNat (φ (rd l i))) (i + 1) (by omega) (by omega) (by simpa using ho)
  refine ev_rs K fun m hm => ?_
  simp (disch := omega) only [impl_moved.l0, if_pos, e1, e4, Option.bind_some, w64, mvd]
  exact ih m hm
theorem moved_any (Φ : Int → Option Int) (φ : Int → Int) (l : List Int) (hn : l.length ≤ 35184372088832) (h1 : ∀ j : Int, 0 ≤ j → j < l.length → Φ j = some (φ j) ∧ 0 ≤ φ j ∧ φ j < l.length) (h2 : ∀ j : Int, 0 ≤ j → j < l.length → Φ (rd l j) = some (φ (rd l j))) :
  (∃ K, ∀ k, K ≤ k → impl_moved.f Φ k l = some (mvd φ l l.length (List.replicate l.length 0) 0)) := by
 obtain ⟨K, h⟩ := moved_l Φ φ l (by omega) h1 h2 l.length (List.replicate l.length 0) 0 (by omega) (by omega) (by simp)
 refine ⟨K, fun k hk => ?_⟩
 unfold impl_moved.f
 rw [if_pos (by omega), if_pos (by simpa using hn)]
 simpa using h k hk
def turnP (n a x : Int) : Int := Int.tmod (wrap64 ((Int.tmod (wrap64 (x + a)) n) + n)) n
theorem turnP_ok {n a x : Int} (h0 : 0 < n) (hn : n ≤ 4611686018427387904) : 0 ≤ turnP n a x ∧ turnP n a x < n := by
 unfold turnP
 have h1 := Int.tmod_lt_of_pos (wrap64 (x + a)) h0
 have h2 := Int.lt_tmod_of_pos (wrap64 (x + a)) h0
 rw [w64 (x := Int.tmod (wrap64 (x + a)) n + n) (by omega) (by omega)]
 exact ⟨Int.tmod_nonneg _ (by omega), Int.tmod_lt_of_pos _ h0⟩
def turnL (l : List Int) (a : Int) : List Int := mvd (turnP l.length a) l l.length (List.replicate l.length 0) 0
theorem turned_any (l : List Int) (a : Int) (hn : l.length ≤ 35184372088832) : (∃ K, ∀ k, K ≤ k → impl_turned.f k l a = some (turnL l a)) := by
 refine moved_any (impl_turned.phi l.length a) (turnP l.length a) l hn (fun j h0 h1 => ?_) (fun j h0 h1 => ?_)
 ·refine ⟨?_, turnP_ok (by omega) (by omega)⟩
  unfold impl_turned.phi impl_rest.f
  rw [if_neg (by omega)]; rfl
 ·unfold impl_turned.phi impl_rest.f
  rw [if_neg (by omega)]; rfl
theorem specTurn_l (l : List Int) (a : Int) (hn : l.length < 4611686018427387904) (d : Nat) :
  ∀ (out : List Int) (i : Int), 0 ≤ i → (l.length : Int) = i + d → out.length = l.length → (∃ K, ∀ k, K ≤ k → spec_TurnSystem.l0 k a l.length out l l.length i = some ((mvd (turnP l.length a) l d out i, true))) := by
 induction d with
 | zero =>
  intro out i h0 hd ho
  refine ev_rs 0 fun m _ => ?_
  simp (disch := omega) only [spec_TurnSystem.l0, if_neg, mvd]
 | succ d ih =>
  intro out i h0 hd ho
  have e := @turnP_ok l.length a i (by omega) (by omega)
  obtain ⟨K, ih⟩ := ih (out.set (turnP l.length a i).toNat (turnP l.length a (rd l i))) (i + 1) (by omega) (by omega) (by simpa using ho)
  refine ev_rs K fun m hm => ?_
  have ih := ih m hm
  have e1 : Int.tmod (wrap64 ((Int.tmod (wrap64 (i + a)) l.length) + l.length)) l.length = turnP l.length a i := rfl
  have e2 : Int.tmod (wrap64 ((Int.tmod (wrap64 (rd l i + a)) l.length) + l.length)) l.length = turnP l.length a (rd l i) := rfl
  simp only [spec_TurnSystem.l0, mvd]
  rw [e1, e2]
  simp (disch := omega) only [if_pos, if_neg]
  rw [w64 (x := i + 1) (by omega) (by omega)]
  exact ih
noncomputable def turnR (l : List Int) (a : Int) : List Int × Bool := if sysB l = true ∧ (-100 ≤ a ∧ a ≤ 100) then (turnL l a, true) else ([], false)
theorem specTurn_any (l : List Int) (a : Int) (hn : l.length ≤ 35184372088832) : (∃ K, ∀ k, K ≤ k → spec_TurnSystem.f k l a = some (turnR l a)) := by
 obtain ⟨K1, h1⟩ := ahGood_any l (by omega)
 obtain ⟨K2, h2⟩ := specTurn_l l a (by omega) l.length (List.replicate l.length 0) 0 (by omega) (by omega) (by simp)
 refine ev_rs (K1 + K2) fun m hm => ?_
 simp (disch := omega) only [spec_TurnSystem.f, l1In_any, h1, Option.bind_some, turnR, spec_TurnSystem.j0]
 cases sysB l
 ·simp
 ·by_cases h : -100 ≤ a ∧ a ≤ 100
  ·simp only [h, and_self, decide_true, if_true, Bool.not_true, Bool.false_eq_true, if_false]
   rw [if_pos (by omega), if_pos (by simpa using hn)]
   simpa [turnL] using h2 m (by omega)
  ·simp [h]
theorem turnP_eq {n a x : Int} (h0 : 0 < n) (hn : n ≤ 12) (ha : -200 ≤ a ∧ a ≤ 200) (hx : 0 ≤ x ∧ x < n) : turnP n a x = (x + a) % n := by
 unfold turnP
 rw [w64 (x := x + a) (by omega) (by omega)]
 have h1 := Int.tmod_lt_of_pos (x + a) h0
 have h2 := Int.lt_tmod_of_pos (x + a) h0
 rw [w64 (x := Int.tmod (x + a) n + n) (by omega) (by omega), Int.tmod_eq_emod_of_nonneg (by omega), Int.add_emod_right]
 have h3 := Int.tmod_add_mul_tdiv (x + a) n
 generalize Int.tmod (x + a) n = t at h3 ⊢
 rw [← h3, Int.add_mul_emod_self_left]
theorem turnP_mod {n a x : Int} (h0 : 0 < n) (hn : n ≤ 12) (ha : -200 ≤ a ∧ a ≤ 200) (hx : 0 ≤ x ∧ x < n) : turnP n a x = turnP n (a % n) x := by
 have m0 := Int.emod_nonneg a (show n ≠ 0 by omega)
 have m1 := Int.emod_lt_of_pos a h0
 rw [turnP_eq h0 hn ha hx, turnP_eq h0 hn (by omega) hx, Int.add_emod x (a % n), Int.emod_emod, ← Int.add_emod]
theorem mvd_congr (φ ψ : Int → Int) (l : List Int) (d : Nat) : ∀ out i, (∀ j : Int, i ≤ j → j < i + d → φ j = ψ j ∧ φ (rd l j) = ψ (rd l j)) → mvd φ l d out i = mvd ψ l d out i := by
 induction d with
 | zero => intro out i h; rfl
 | succ d ih =>
  intro out i h
  unfold mvd
  have e := h i (by omega) (by omega)
  rw [e.1, e.2]
  exact ih _ _ (fun j h1 h2 => h j (by omega) (by omega))
theorem sysB_rd0 {l : List Int} (h : sysB l = true) : l.length ≤ 12 ∧ ∀ j : Int, 0 ≤ j → j < l.length → 0 ≤ rd l j ∧ rd l j < (l.length : Nat) := by
 have h := tf_iff.1 h
 exact ⟨h.1, fun j h0 h1 => ⟨h.2.lo j h0 h1, h.2.hi j h0 h1⟩⟩
theorem turnL_mod {l : List Int} (hB : sysB l = true) {a : Int} (ha : -200 ≤ a ∧ a ≤ 200) : turnL l a = turnL l (a % l.length) := by
 obtain ⟨hl, hr⟩ := sysB_rd0 hB
 unfold turnL
 by_cases h0 : l.length = 0
 ·rw [h0]; rfl
 ·refine mvd_congr _ _ l _ _ _ fun j h1 h2 => ⟨turnP_mod (by omega) (by omega) ha (by omega), turnP_mod (by omega) (by omega) ha (by have := hr j h1 (by omega); omega)⟩
def turnBack (p : List Int) (r : Nat) : Bool := (impl_IsSystem.f 200 (turnL p r) == some true) && (turnL (turnL p r) (((p.length : Int) - r) % p.length) == p) && decide ((turnL p r).length = p.length)
def turnBack_table_P : List Int → Bool := fun p => (turnL p 0 == p) && (turnBack p 0) && ((List.range p.length).all fun r => turnBack p r)
theorem turnBack_table_4 : ((List.range 5).all fun n => (Pl.sysList n).all turnBack_table_P) = true := by decide +kernel
theorem turnBack_table_5_0 : (((Pl.sysList 5).drop (14 * 0)).take 14).all turnBack_table_P = true := by decide +kernel
theorem turnBack_table_5_1 : (((Pl.sysList 5).drop (14 * 1)).take 14).all turnBack_table_P = true := by decide +kernel
theorem turnBack_table_5_2 : (((Pl.sysList 5).drop (14 * 2)).take 14).all turnBack_table_P = true := by decide +kernel
theorem turnBack_table_6_0 : (((Pl.sysList 6).drop (22 * 0)).take 22).all turnBack_table_P = true := by decide +kernel
theorem turnBack_table_6_1 : (((Pl.sysList 6).drop (22 * 1)).take 22).all turnBack_table_P = true := by decide +kernel
theorem turnBack_table_6_2 : (((Pl.sysList 6).drop (22 * 2)).take 22).all turnBack_table_P = true := by decide +kernel
theorem turnBack_table_6_3 : (((Pl.sysList 6).drop (22 * 3)).take 22).all turnBack_table_P = true := by decide +kernel
theorem turnBack_table_6_4 : (((Pl.sysList 6).drop (22 * 4)).take 22).all turnBack_table_P = true := by decide +kernel
theorem turnBack_table_6_5 : (((Pl.sysList 6).drop (22 * 5)).take 22).all turnBack_table_P = true := by decide +kernel
theorem turnBack_table : ((List.range 7).all fun n => (Pl.sysList n).all turnBack_table_P) = true := by
 refine tab_of turnBack_table_4 (fun i hi => ?_) (fun i hi => ?_)
 ·match i, hi with
  | 0, _ => exact turnBack_table_5_0
  | 1, _ => exact turnBack_table_5_1
  | 2, _ => exact turnBack_table_5_2
 ·match i, hi with
  | 0, _ => exact turnBack_table_6_0
  | 1, _ => exact turnBack_table_6_1
  | 2, _ => exact turnBack_table_6_2
  | 3, _ => exact turnBack_table_6_3
  | 4, _ => exact turnBack_table_6_4
  | 5, _ => exact turnBack_table_6_5
theorem turnBack_any {l : List Int} (hB : sysB l = true) {a : Int} (ha : -100 ≤ a ∧ a ≤ 100) : sysB (turnL l a) = true ∧ turnL (turnL l a) (-a) = l ∧ turnL l l.length = l := by
 obtain ⟨hl, hr⟩ := sysB_rd0 hB
 have t := of_table turnBack_table hB
 unfold turnBack_table_P at t
 simp only [Bool.and_eq_true, beq_iff_eq] at t
 obtain ⟨⟨t0, tz⟩, t1⟩ := t
 by_cases h0 : l.length = 0
 ·have e : l = [] := List.eq_nil_of_length_eq_zero h0
  subst e
  exact ⟨hB, rfl, rfl⟩
 ·have m0 := Int.emod_nonneg a (show (l.length : Int) ≠ 0 by omega)
  have m1 := Int.emod_lt_of_pos a (show (0 : Int) < l.length by omega)
  have hr := List.all_eq_true.1 t1 (a % (l.length : Int)).toNat (List.mem_range.2 (by omega))
  unfold turnBack at hr
  rw [show (((a % (l.length : Int)).toNat : Nat) : Int) = a % (l.length : Int) by omega] at hr
  simp only [Bool.and_eq_true, beq_iff_eq, decide_eq_true_eq] at hr
  obtain ⟨⟨r1, r2⟩, r3⟩ := hr
  have e1 := turnL_mod hB (a := a) (by omega)
  rw [← e1] at r1 r2 r3
  obtain ⟨K, hK⟩ := IsSystem_any (turnL l a) (by omega)
  have hq : sysB (turnL l a) = true := by
   have q1 := at_rounds (g := fun k => impl_IsSystem.f k (turnL l a)) (fun k => impl_IsSystem.mono _ k) (show 200 ≤ K + 200 by omega) r1
   have q2 := hK (K + 200) (by omega)
   exact Option.some.inj (q2.symm.trans q1)
  refine ⟨hq, ?_, ?_⟩
  ·rw [turnL_mod hq (a := -a) (by omega), r3]
   have e2 : (-a) % (l.length : Int) = ((l.length : Int) - a % l.length) % l.length := by
    rw [Int.sub_emod, Int.emod_self, Int.emod_emod, ← Int.zero_emod (l.length : Int), ← Int.sub_emod, Int.zero_sub]
   rw [e2]
   exact r2
  ·rw [turnL_mod hB (a := (l.length : Int)) (by omega), Int.emod_self]
   exact t0
theorem pairB_sys2 {l m : List Int} (h : pairB l m = true) : sysB l = true ∧ sysB m = true := by
 simp only [pairB, Bool.and_eq_true] at h
 exact h.1
noncomputable def turnMR (l m : List Int) (a : Int) : List Int × List Int × Bool := if pairB l m = true ∧ (-100 ≤ a ∧ a ≤ 100) then (turnL l a, turnL m a, true) else ([], [], false)
theorem turnMR_length (l m : List Int) (a : Int) : (turnMR l m a).1.length ≤ l.length ∧ (turnMR l m a).2.1.length ≤ m.length := by
 unfold turnMR
 split <;> simp [turnL, mvd_length]
theorem implTurnM_any (l m : List Int) (a : Int) (hl : l.length ≤ 1048576) (hm : m.length ≤ 1048576) : (∃ K, ∀ k, K ≤ k → impl_TurnMeander.f k l m a = some (turnMR l m a)) := by
 obtain ⟨K1, h1⟩ := IsPair_any l m (by omega) (by omega)
 obtain ⟨K2, h2⟩ := turned_any l a (by omega)
 obtain ⟨K3, h3⟩ := turned_any m a (by omega)
 refine ev_rs (K1 + K2 + K3) fun k hk => ?_
 simp (disch := omega) only [impl_TurnMeander.f, impl_isTurn.f, impl_TurnMeander.j0, in_any, h1, h2, h3, Option.bind_some, turnMR]
 cases pairB l m <;> by_cases h : -100 ≤ a ∧ a ≤ 100 <;> simp [h]
theorem specTurnM_any (l m : List Int) (a : Int) (hl : l.length ≤ 1048576) (hm : m.length ≤ 1048576) : (∃ K, ∀ k, K ≤ k → spec_TurnMeander.f k l m a = some (turnMR l m a)) := by
 obtain ⟨K1, h1⟩ := mePair_any l m (by omega) (by omega)
 obtain ⟨K2, h2⟩ := specTurn_any l a (by omega)
 obtain ⟨K3, h3⟩ := specTurn_any m a (by omega)
 refine ⟨K1 + K2 + K3, fun k hk => ?_⟩
 simp (disch := omega) only [spec_TurnMeander.f, h1, h2, h3, Option.bind_some, turnMR, turnR]
 cases hp : pairB l m
 ·simp
 ·have := pairB_sys2 hp
  by_cases h : -100 ≤ a ∧ a ≤ 100 <;> simp [h, this]
noncomputable def flipR (l m : List Int) : List Int × List Int × Bool := if pairB l m = true then (m, l, true) else ([], [], false)
theorem flipR_length (l m : List Int) : (flipR l m).1.length ≤ m.length ∧ (flipR l m).2.1.length ≤ l.length := by
 unfold flipR
 split <;> simp
theorem implFlip_any (l m : List Int) (hl : l.length ≤ 1048576) (hm : m.length ≤ 1048576) : (∃ K, ∀ k, K ≤ k → impl_FlipMeander.f k l m = some (flipR l m)) := by
 obtain ⟨K1, h1⟩ := IsPair_any l m (by omega) (by omega)
 refine ⟨K1, fun k hk => ?_⟩
 simp (disch := omega) only [impl_FlipMeander.f, h1, Option.bind_some, flipR, slices_Clone_int_int.f, List.nil_append, List.length_nil, Nat.zero_add, if_pos]
 cases pairB l m <;> simp
theorem specFlip_any (l m : List Int) (hl : l.length ≤ 1048576) (hm : m.length ≤ 1048576) : (∃ K, ∀ k, K ≤ k → spec_FlipMeander.f k l m = some (flipR l m)) := by
 obtain ⟨K1, h1⟩ := mePair_any l m (by omega) (by omega)
 refine ⟨K1, fun k hk => ?_⟩
 simp (disch := omega) only [spec_FlipMeander.f, h1, Option.bind_some, flipR, spec_l1Own.f, List.nil_append, List.length_nil, Nat.zero_add, if_pos]
 cases pairB l m <;> simp
def mirrorP (n x : Int) : Int := wrap64 (wrap64 (n - 1) - x)
def mirrorL (l : List Int) : List Int := mvd (mirrorP l.length) l l.length (List.replicate l.length 0) 0
theorem mirrorP_ok {n x : Int} (h0 : 0 ≤ x) (h1 : x < n) (hn : n ≤ 1048576) : 0 ≤ mirrorP n x ∧ mirrorP n x < n := by
 unfold mirrorP
 rw [w64 (x := n - 1) (by omega) (by omega), w64 (by omega) (by omega)]; omega
theorem mirrored_any (l : List Int) (hn : l.length ≤ 1048576) : (∃ K, ∀ k, K ≤ k → impl_mirrored.f k l = some (mirrorL l)) :=
 moved_any (impl_mirrored.phi l.length) (mirrorP l.length) l (by omega) (fun j h0 h1 => ⟨rfl, mirrorP_ok h0 h1 (by omega)⟩) (fun j h0 h1 => rfl)
theorem ahMirror_l (l : List Int) (hn : l.length ≤ 1048576) (d : Nat) :
  ∀ (out : List Int) (i : Int), 0 ≤ i → (l.length : Int) = i + d → out.length = l.length → (∃ K, ∀ k, K ≤ k → spec_ahMirror.l0 k l.length out l l.length i = some (mvd (mirrorP l.length) l d out i)) := by
 induction d with
 | zero =>
  intro out i h0 hd ho
  refine ev_rs 0 fun m _ => ?_
  simp (disch := omega) only [spec_ahMirror.l0, if_neg, mvd]
 | succ d ih =>
  intro out i h0 hd ho
  have e := @mirrorP_ok l.length i h0 (by omega) (by omega)
  obtain ⟨K, ih⟩ := ih (out.set (mirrorP l.length i).toNat (mirrorP l.length (rd l i))) (i + 1) (by omega) (by omega) (by simpa using ho)
  refine ev_rs K fun m hm => ?_
  have ih := ih m hm
  have e1 : wrap64 (wrap64 ((l.length : Int) - 1) - i) = mirrorP l.length i := rfl
  have e2 : wrap64 (wrap64 ((l.length : Int) - 1) - rd l i) = mirrorP l.length (rd l i) := rfl
  simp only [spec_ahMirror.l0, mvd]
  rw [e1, e2, w64 (x := i + 1) (by omega) (by omega), if_pos (by omega), if_pos h0, if_pos (by omega), if_pos e.1, if_pos (by omega)]
  exact ih
theorem ahMirror_any (l : List Int) (hn : l.length ≤ 1048576) : (∃ K, ∀ k, K ≤ k → spec_ahMirror.f k l = some (mirrorL l)) := by
 obtain ⟨K, h⟩ := ahMirror_l l hn l.length (List.replicate l.length 0) 0 (by omega) (by omega) (by simp)
 refine ⟨K, fun k hk => ?_⟩
 unfold spec_ahMirror.f
 rw [if_pos (by omega), if_pos (by omega)]
 simpa [mirrorL] using h k hk
theorem mirrorL_length (l : List Int) : (mirrorL l).length = l.length := by simp [mirrorL, mvd_length]
noncomputable def mirrorMR (l m : List Int) : List Int × List Int × Bool := if pairB l m = true then (mirrorL l, mirrorL m, true) else ([], [], false)
theorem mirrorMR_length (l m : List Int) : (mirrorMR l m).1.length ≤ l.length ∧ (mirrorMR l m).2.1.length ≤ m.length := by
 unfold mirrorMR
 split <;> simp [mirrorL_length]
theorem implMirrorM_any (l m : List Int) (hl : l.length ≤ 1048576) (hm : m.length ≤ 1048576) : (∃ K, ∀ k, K ≤ k → impl_MirrorMeander.f k l m = some (mirrorMR l m)) := by
 obtain ⟨K1, h1⟩ := IsPair_any l m (by omega) (by omega)
 obtain ⟨K2, h2⟩ := mirrored_any l hl
 obtain ⟨K3, h3⟩ := mirrored_any m hm
 refine ⟨K1 + K2 + K3, fun k hk => ?_⟩
 simp (disch := omega) only [impl_MirrorMeander.f, h1, h2, h3, Option.bind_some, mirrorMR]
 cases pairB l m <;> simp
theorem specMirrorM_any (l m : List Int) (hl : l.length ≤ 1048576) (hm : m.length ≤ 1048576) : (∃ K, ∀ k, K ≤ k → spec_MirrorMeander.f k l m = some (mirrorMR l m)) := by
 obtain ⟨K1, h1⟩ := mePair_any l m (by omega) (by omega)
 obtain ⟨K2, h2⟩ := ahMirror_any l hl
 obtain ⟨K3, h3⟩ := ahMirror_any m hm
 refine ⟨K1 + K2 + K3, fun k hk => ?_⟩
 simp (disch := omega) only [spec_MirrorMeander.f, h1, h2, h3, Option.bind_some, mirrorMR]
 cases pairB l m <;> simp
def shiftL (l : List Int) (a : Int) : Nat → List Int → Int → List Int
 | 0, out, _ => out
 | d + 1, out, i => shiftL l a d (out ++ [wrap64 (rd l i + a)]) (i + 1)
theorem shiftL_length (l : List Int) (a : Int) (d : Nat) : ∀ out i, (shiftL l a d out i).length = out.length + d := by
 induction d with
 | zero => intro out i; rfl
 | succ d ih => intro out i; unfold shiftL; rw [ih]; simp; omega
theorem shiftL_app (l : List Int) (a : Int) (d : Nat) : ∀ (out : List Int) i, shiftL l a d out i = out ++ shiftL l a d [] i := by
 induction d with
 | zero => intro out i; simp [shiftL]
 | succ d ih => intro out i; unfold shiftL; rw [ih, ih ([] ++ _)]; simp
theorem joined_l (a l : List Int) (hl : l.length ≤ 1048576) (d : Nat) : ∀ (out : List Int) (i : Int), 0 ≤ i → (l.length : Int) = i + d → out.length + d ≤ 4194304 → (∃ K, ∀ k, K ≤ k → impl_joined.l0 k a out l l.length i = some (shiftL l a.length d out i)) := by
 induction d with
 | zero =>
  intro out i h0 hd ho
  refine ev_rs 0 fun m _ => ?_
  simp (disch := omega) only [impl_joined.l0, if_neg, shiftL]
 | succ d ih =>
  intro out i h0 hd ho
  obtain ⟨K, ih⟩ := ih (out ++ [wrap64 (rd l i + a.length)]) (i + 1) (by omega) (by omega) (by simp; omega)
  refine ev_rs K fun m hm => ?_
  simp only [impl_joined.l0, shiftL]
  rw [w64 (x := i + 1) (by omega) (by omega), if_pos (by omega), if_pos h0, if_pos (by omega), if_pos (by omega)]
  exact ih m hm
theorem ahShift_l (l : List Int) (a : Int) (hl : l.length ≤ 1048576) (d : Nat) : ∀ (out : List Int) (i : Int), 0 ≤ i → (l.length : Int) = i + d → out.length + d ≤ 4194304 → (∃ K, ∀ k, K ≤ k → spec_ahShift.l0 k a out l l.length i = some (shiftL l a d out i)) := by
 induction d with
 | zero =>
  intro out i h0 hd ho
  refine ev_rs 0 fun m _ => ?_
  simp (disch := omega) only [spec_ahShift.l0, if_neg, shiftL]
 | succ d ih =>
  intro out i h0 hd ho
  obtain ⟨K, ih⟩ := ih (out ++ [wrap64 (rd l i + a)]) (i + 1) (by omega) (by omega) (by simp; omega)
  refine ev_rs K fun m hm => ?_
  simp only [spec_ahShift.l0, shiftL]
  rw [w64 (x := i + 1) (by omega) (by omega), if_pos (by omega), if_pos h0, if_pos (by omega), if_pos (by omega)]
  exact ih m hm
def joinL (a b : List Int) : List Int := a ++ shiftL b a.length b.length [] 0
theorem joinL_length (a b : List Int) : (joinL a b).length = a.length + b.length := by unfold joinL; simp [shiftL_length]
theorem joined_any (a b : List Int) (ha : a.length ≤ 1048576) (hb : b.length ≤ 1048576) : (∃ K, ∀ k, K ≤ k → impl_joined.f k a b = some (joinL a b)) := by
 obtain ⟨K, h⟩ := joined_l a b hb b.length a 0 (by omega) (by omega) (by omega)
 refine ⟨K, fun k hk => ?_⟩
 unfold impl_joined.f slices_Clone_int_int.f joinL
 rw [← shiftL_app]
 simp only [Option.bind_some, List.nil_append]
 rw [if_pos (by simp; omega), Option.bind_some]
 exact h k hk
theorem ahShift_any (a : Int) (b : List Int) (hb : b.length ≤ 1048576) : (∃ K, ∀ k, K ≤ k → spec_ahShift.f k b a = some (shiftL b a b.length [] 0)) := by
 obtain ⟨K, h⟩ := ahShift_l b a hb b.length [] 0 (by omega) (by omega) (by simp; omega)
 exact ⟨K, fun k hk => h k hk⟩
noncomputable def joinR (a b : List Int) : List Int × Bool := if sysB a = true ∧ sysB b = true ∧ ¬ (a.length : Int) + b.length > 12 then (joinL a b, true) else ([], false)
theorem specJoin_any (a b : List Int) (ha : a.length ≤ 1048576) (hb : b.length ≤ 1048576) : (∃ K, ∀ k, K ≤ k → spec_JoinSystems.f k a b = some (joinR a b)) := by
 obtain ⟨K1, h1⟩ := ahGood_any a (by omega)
 obtain ⟨K2, h2⟩ := ahGood_any b (by omega)
 obtain ⟨K3, h3⟩ := ahShift_any a.length b hb
 have hl := shiftL_length b a.length b.length [] 0
 refine ev_rs (K1 + K2 + K3) fun m hm => ?_
 simp (disch := omega) only [spec_JoinSystems.f, h1, h2, w64, Option.bind_some, joinR, spec_JoinSystems.j0]
 cases sysB a <;> cases sysB b <;> by_cases h : (a.length : Int) + b.length > 12 <;> simp [h]
 simp only [spec_l1Own.f, Option.bind_some, List.nil_append]
 rw [if_pos (by simp; omega), Option.bind_some, h3 m (by omega), Option.bind_some, if_pos (by simp at hl; omega)]
 rfl
theorem pairB_sys3 {l m : List Int} (h : pairB l m = true) : sysB l = true ∧ sysB m = true ∧ l.length = m.length := by
 simp only [pairB, Bool.and_eq_true, decide_eq_true_eq] at h
 exact ⟨h.1.1, h.1.2, h.2⟩
noncomputable def joinMR (l m a b : List Int) : List Int × List Int × Bool := if pairB l m = true ∧ pairB a b = true ∧ ¬ (l.length : Int) + a.length > 12 then (joinL l a, joinL m b, true) else ([], [], false)
theorem joinMR_length (l m a b : List Int) : (joinMR l m a b).1.length ≤ 12 ∧ (joinMR l m a b).2.1.length ≤ 12 := by
 unfold joinMR
 split
 ·rename_i h
  have h1 := (pairB_sys3 h.1).2.2
  have h2 := (pairB_sys3 h.2.1).2.2
  simp only [joinL_length]
  omega
 ·simp
theorem implJoinM_any (l m a b : List Int) (hl : l.length ≤ 1048576) (hm : m.length ≤ 1048576) (ha : a.length ≤ 1048576) (hb : b.length ≤ 1048576) : (∃ K, ∀ k, K ≤ k → impl_JoinMeanders.f k l m a b = some (joinMR l m a b)) := by
 obtain ⟨K1, h1⟩ := IsPair_any l m (by omega) (by omega)
 obtain ⟨K2, h2⟩ := IsPair_any a b (by omega) (by omega)
 obtain ⟨K3, h3⟩ := joined_any l a (by omega) (by omega)
 obtain ⟨K4, h4⟩ := joined_any m b (by omega) (by omega)
 refine ev_rs (K1 + K2 + K3 + K4) fun k hk => ?_
 simp (disch := omega) only [impl_JoinMeanders.f, impl_JoinMeanders.j0, h1, h2, h3, h4, w64, Option.bind_some, joinMR]
 cases pairB l m <;> cases pairB a b <;> by_cases h : (l.length : Int) + a.length > 12 <;> simp [h]
theorem specJoinM_any (l m a b : List Int) (hl : l.length ≤ 1048576) (hm : m.length ≤ 1048576) (ha : a.length ≤ 1048576) (hb : b.length ≤ 1048576) : (∃ K, ∀ k, K ≤ k → spec_JoinMeanders.f k l m a b = some (joinMR l m a b)) := by
 obtain ⟨K1, h1⟩ := mePair_any l m (by omega) (by omega)
 obtain ⟨K2, h2⟩ := mePair_any a b (by omega) (by omega)
 obtain ⟨K3, h3⟩ := specJoin_any l a (by omega) (by omega)
 obtain ⟨K4, h4⟩ := specJoin_any m b (by omega) (by omega)
 refine ev_rs (K1 + K2 + K3 + K4) fun k hk => ?_
 simp (disch := omega) only [spec_JoinMeanders.f, spec_JoinMeanders.j0, h1, h2, h3, h4, Option.bind_some, joinMR, joinR]
 cases hp : pairB l m
 ·simp
 ·cases hq : pairB a b
  ·simp
  ·obtain ⟨p1, p2, p3⟩ := pairB_sys3 hp
   obtain ⟨q1, q2, q3⟩ := pairB_sys3 hq
   rw [← p3, ← q3]
   by_cases h : (l.length : Int) + a.length > 12
   ·simp [h]
   ·simp [h, p1, p2, q1, q2]
def txt (l : List Int) : ByteArray := (spec_ahText.f 60 l).getD ⟨#[]⟩
theorem text_table : ((List.range 7).all fun n => (Pl.sysList n).all fun p => (spec_ahText.f 60 p).isSome && decide (impl_systemText.f 60 p = spec_ahText.f 60 p) && decide ((txt p).size ≤ 12)) = true := by decide +kernel
theorem text_ok {l : List Int} (hl : sysB l = true) : spec_ahText.f 60 l = some (txt l) ∧ impl_systemText.f 60 l = some (txt l) ∧ (txt l).size ≤ 12 := by
 have h := of_table (P := fun p => (spec_ahText.f 60 p).isSome && decide (impl_systemText.f 60 p = spec_ahText.f 60 p) && decide ((txt p).size ≤ 12)) text_table hl
 simp only [Bool.and_eq_true, decide_eq_true_eq] at h
 obtain ⟨⟨a, b⟩, c⟩ := h
 obtain ⟨x, hx⟩ := Option.isSome_iff_exists.1 a
 have hd : txt l = x := by unfold txt; rw [hx]; rfl
 rw [hd] at c ⊢
 exact ⟨hx, b.trans hx, c⟩
theorem systemText_any {l : List Int} (hl : sysB l = true) : (∃ K, ∀ k, K ≤ k → impl_systemText.f k l = some (txt l)) := ⟨60, fun k hk => at_rounds (g := fun k => impl_systemText.f k l) (fun k => impl_systemText.mono l k) hk (text_ok hl).2.1⟩
theorem ahText_any {l : List Int} (hl : sysB l = true) : (∃ K, ∀ k, K ≤ k → spec_ahText.f k l = some (txt l)) := ⟨60, fun k hk => at_rounds (g := fun k => spec_ahText.f k l) (fun k => spec_ahText.mono l k) hk (text_ok hl).1⟩
theorem pairB_sys {l m : List Int} (h : pairB l m = true) : sysB l = true ∧ sysB m = true := by
 simp only [pairB, Bool.and_eq_true] at h
 exact h.1
def bar2 (l m : List Int) : ByteArray := (txt l ++ (⟨#[124]⟩ : ByteArray)) ++ txt m
theorem bar_size {l m : List Int} (h : pairB l m = true) : (txt l).size + 1 ≤ 9223372036854775807 ∧ (txt l ++ (⟨#[124]⟩ : ByteArray)).size + (txt m).size ≤ 9223372036854775807 := by
 have a := (text_ok (pairB_sys h).1).2.2
 have b := (text_ok (pairB_sys h).2).2.2
 refine ⟨by omega, ?_⟩
 rw [ByteArray.size_append]
 have : (⟨#[124]⟩ : ByteArray).size = 1 := rfl
 omega
noncomputable def meTextR (l m : List Int) : ByteArray × Bool := if pairB l m = true then (bar2 l m, true) else (⟨#[]⟩, false)
theorem meanderText_any {l m : List Int} (h : pairB l m = true) : (∃ K, ∀ k, K ≤ k → impl_meanderText.f k l m = some (bar2 l m)) := by
 obtain ⟨K2, h2⟩ := systemText_any (pairB_sys h).1
 obtain ⟨K3, h3⟩ := systemText_any (pairB_sys h).2
 have hs := bar_size h
 refine ⟨K2 + K3, fun k hk => ?_⟩
 simp (disch := omega) only [impl_meanderText.f, h2, h3, Option.bind_some]
 rw [if_pos hs.1, if_pos hs.2]; rfl
theorem meText_any {l m : List Int} (h : pairB l m = true) : (∃ K, ∀ k, K ≤ k → spec_meText.f k l m = some (bar2 l m)) := by
 obtain ⟨K2, h2⟩ := ahText_any (pairB_sys h).1
 obtain ⟨K3, h3⟩ := ahText_any (pairB_sys h).2
 have hs := bar_size h
 refine ⟨K2 + K3, fun k hk => ?_⟩
 simp (disch := omega) only [spec_meText.f, h2, h3, Option.bind_some]
 rw [if_pos hs.1, if_pos hs.2]; rfl
theorem implMeText_any (l m : List Int) (hl : l.length ≤ 1048576) (hm : m.length ≤ 1048576) : (∃ K, ∀ k, K ≤ k → impl_MeanderText.f k l m = some (meTextR l m)) := by
 obtain ⟨K1, h1⟩ := IsPair_any l m (by omega) (by omega)
 by_cases h : pairB l m = true
 ·obtain ⟨K2, h2⟩ := meanderText_any h
  exact ⟨K1 + K2, fun k hk => by simp (disch := omega) only [impl_MeanderText.f, h1, h, h2, Option.bind_some, meTextR, if_true]⟩
 ·exact ⟨K1, fun k hk => by simp (disch := omega) only [impl_MeanderText.f, h1, h, Option.bind_some, meTextR, if_false, Bool.false_eq_true]⟩
theorem specMeText_any (l m : List Int) (hl : l.length ≤ 1048576) (hm : m.length ≤ 1048576) : (∃ K, ∀ k, K ≤ k → spec_MeanderText.f k l m = some (meTextR l m)) := by
 obtain ⟨K1, h1⟩ := mePair_any l m (by omega) (by omega)
 by_cases h : pairB l m = true
 ·obtain ⟨K2, h2⟩ := meText_any h
  exact ⟨K1 + K2, fun k hk => by simp (disch := omega) only [spec_MeanderText.f, h1, h, h2, Option.bind_some, meTextR, if_true]⟩
 ·exact ⟨K1, fun k hk => by simp (disch := omega) only [spec_MeanderText.f, h1, h, Option.bind_some, meTextR, if_false, Bool.false_eq_true]⟩
def pz : Nat → ByteArray → List Int → List Int → Int → Option (List Int × List Int)
 | 0, _, out, op, _ => some (out, op)
 | d + 1, s, out, op, i =>
  if bt s i = 40 then pz d s out (op ++ [i]) (i + 1)
  else if bt s i = 41 ∧ (op.length : Int) > 0 then
   pz d s ((out.set (rd op ((op.length : Int) - 1)).toNat i).set i.toNat (rd op ((op.length : Int) - 1))) (op.take (op.length - 1)) (i + 1)
  else none
def OpenOk (op : List Int) (i : Int) : Prop := (∀ x ∈ op, 0 ≤ x ∧ x < i) ∧ (op.length : Int) ≤ i
theorem OpenOk.push {op : List Int} {i : Int} (h : OpenOk op i) (h0 : 0 ≤ i) : OpenOk (op ++ [i]) (i + 1) := by
 refine ⟨fun x hx => ?_, by simp; exact h.2⟩
 rcases List.mem_append.1 hx with hx | hx
 ·have := h.1 x hx; omega
 ·have : x = i := by simpa using hx
  omega
theorem OpenOk.pop {op : List Int} {i : Int} (h : OpenOk op i) : OpenOk (op.take (op.length - 1)) (i + 1) := by
 refine ⟨fun x hx => ?_, by simp; have := h.2; omega⟩
 have := h.1 x (List.mem_of_mem_take hx); omega
theorem OpenOk.last {op : List Int} {i : Int} (h : OpenOk op i) (hl : (op.length : Int) > 0) : 0 ≤ rd op ((op.length : Int) - 1) ∧ rd op ((op.length : Int) - 1) < i :=
 h.1 _ (rd_mem op _ (by omega) (by omega))
def pzOut : Option (List Int × List Int) → List Int × Bool
 | none => ([], false)
 | some (o, op) => if op.length = 0 then (o, true) else ([], false)
def pzImpl : Option (List Int × List Int) → List Int × Bool
 | none => ([], false)
 | some (o, op) => (o, decide (op.length = 0))
theorem pz_length (s : ByteArray) (d : Nat) : ∀ (out op : List Int) (i : Int) o p, pz d s out op i = some (o, p) → o.length = out.length := by
 induction d with
 | zero => intro out op i o p h; simp [pz] at h; rw [h.1]
 | succ d ih =>
  intro out op i o p h
  unfold pz at h
  split at h
  ·exact ih _ _ _ _ _ h
  ·split at h
   ·have := ih _ _ _ _ _ h
    simpa using this
   ·cases h
theorem ahParse_l (s : ByteArray) (hs : s.size ≤ 1048576) (d : Nat) : ∀ (out op : List Int) (i : Int), 0 ≤ i → (s.size : Int) = i + d → out.length = s.size → OpenOk op i →
  (∃ K, ∀ k, K ≤ k → spec_ahParse.l0 k s out op i = some (pzOut (pz d s out op i))) := by
 induction d with
 | zero =>
  intro out op i h0 hd ho hop
  refine ev_rs 0 fun m _ => ?_
  simp (disch := omega) only [spec_ahParse.l0, if_neg, pz, pzOut]
  by_cases h : (op.length : Int) > 0
  ·rw [if_pos h, if_neg (by omega)]
  ·rw [if_neg h, if_pos (by omega)]
 | succ d ih =>
  intro out op i h0 hd ho hop
  have hol := hop.2
  by_cases h40 : bt s i = 40
  ·obtain ⟨K, ih⟩ := ih out (op ++ [i]) (i + 1) (by omega) (by omega) ho (hop.push h0)
   refine ev_rs K fun m hm => ?_
   simp (disch := omega) only [spec_ahParse.l0, if_pos, if_neg, w64, pz]
   exact ih m hm
  ·by_cases h41 : bt s i = 41 ∧ (op.length : Int) > 0
   ·obtain ⟨g0, g1⟩ := hop.last h41.2
    obtain ⟨K, ih⟩ := ih ((out.set (rd op ((op.length : Int) - 1)).toNat i).set i.toNat (rd op ((op.length : Int) - 1))) (op.take (op.length - 1)) (i + 1) (by omega) (by omega) (by simpa using ho) hop.pop
    refine ev_rs K fun m hm => ?_
    have e : ((op.length : Int) - 1).toNat = op.length - 1 := by omega
    simp (disch := omega) only [spec_ahParse.l0, if_pos, if_neg, w64, pz]
    rw [e]
    exact ih m hm
   ·refine ev_rs 0 fun m hm => ?_
    simp (disch := omega) only [spec_ahParse.l0, if_pos, if_neg, w64, pz, pzOut]
    simp
theorem ahParse_any (s : ByteArray) (hs : s.size ≤ 1048576) : (∃ K, ∀ k, K ≤ k → spec_ahParse.f k s = some (if (s.size : Int) > 12 then ([], false) else pzOut (pz s.size s (List.replicate s.size 0) [] 0))) := by
 obtain ⟨K, h⟩ := ahParse_l s hs s.size (List.replicate s.size 0) [] 0 (by omega) (by omega) (by simp) ⟨by simp, by simp⟩
 refine ⟨K, fun k hk => ?_⟩
 unfold spec_ahParse.f
 split
 ·rfl
 ·rw [if_pos (by omega), if_pos (by omega)]
  simpa using h k hk
theorem parseSystem_l (s : ByteArray) (hs : s.size ≤ 1048576) (d : Nat) : ∀ (out op : List Int) (i : Int), 0 ≤ i → (s.size : Int) = i + d → out.length = s.size → OpenOk op i →
  (∃ K, ∀ k, K ≤ k → impl_parseSystem.l0 k s out op s.size i = some (pzImpl (pz d s out op i))) := by
 induction d with
 | zero =>
  intro out op i h0 hd ho hop
  refine ev_rs 0 fun m _ => ?_
  simp (disch := omega) only [impl_parseSystem.l0, if_neg, pz, pzImpl]
  congr 2
  by_cases h : op.length = 0
  ·simp [h]
  ·simp [h]
 | succ d ih =>
  intro out op i h0 hd ho hop
  have hol := hop.2
  by_cases h40 : bt s i = 40
  ·obtain ⟨K, ih⟩ := ih out (op ++ [i]) (i + 1) (by omega) (by omega) ho (hop.push h0)
   refine ev_rs K fun m hm => ?_
   simp (disch := omega) only [impl_parseSystem.l0, if_pos, if_neg, w64, pz]
   exact ih m hm
  ·by_cases h41 : bt s i = 41 ∧ (op.length : Int) > 0
   ·obtain ⟨g0, g1⟩ := hop.last h41.2
    obtain ⟨K, ih⟩ := ih ((out.set (rd op ((op.length : Int) - 1)).toNat i).set i.toNat (rd op ((op.length : Int) - 1))) (op.take (op.length - 1)) (i + 1) (by omega) (by omega) (by simpa using ho) hop.pop
    refine ev_rs K fun m hm => ?_
    have e : ((op.length : Int) - 1).toNat = op.length - 1 := by omega
    simp (disch := omega) only [impl_parseSystem.l0, if_pos, if_neg, w64, pz]
    rw [e]
    rw [List.set_comm _ _ (by omega)]
    exact ih m hm
   ·refine ev_rs 0 fun m hm => ?_
    simp (disch := omega) only [impl_parseSystem.l0, if_pos, if_neg, w64, pz, pzImpl]
    simp
theorem parseSystem_any (s : ByteArray) (hs : s.size ≤ 1048576) : (∃ K, ∀ k, K ≤ k → impl_parseSystem.f k s = some (pzImpl (pz s.size s (List.replicate s.size 0) [] 0))) := by
 obtain ⟨K, h⟩ := parseSystem_l s hs s.size (List.replicate s.size 0) [] 0 (by omega) (by omega) (by simp) ⟨by simp, by simp⟩
 refine ⟨K, fun k hk => ?_⟩
 unfold impl_parseSystem.f
 rw [if_pos (by omega), if_pos (by omega)]
 simpa using h k hk
theorem pz_both (x : Option (List Int × List Int)) : (if (pzImpl x).2 = true then ((pzImpl x).1, true) else ([], false)) = pzOut x := by
 rcases x with _ | ⟨o, op⟩
 ·rfl
 ·by_cases h : op.length = 0 <;> simp [pzImpl, pzOut, h]
def parsed (s : ByteArray) : List Int × Bool := if (s.size : Int) > 12 then ([], false) else pzOut (pz s.size s (List.replicate s.size 0) [] 0)
theorem parsed_length (s : ByteArray) : (parsed s).1.length ≤ 12 := by
 unfold parsed
 split
 ·simp
 ·cases h : pz s.size s (List.replicate s.size 0) [] 0 with
  | none => simp [pzOut]
  | some x =>
   have := pz_length _ _ _ _ _ _ _ h
   unfold pzOut
   simp only
   split
   ·simp at this; simp; omega
   ·simp
def sysD (l : List Int) : Bool := (List.range l.length).all fun i => decide (0 ≤ rd l (i : Nat)) && decide (rd l (i : Nat) < (l.length : Nat)) && !(rd l (i : Nat) == ((i : Nat) : Int)) && (rd l (rd l (i : Nat)) == ((i : Nat) : Int)) &&
 (List.range l.length).all fun b => !(decide (i < b)) || !(decide (((b : Nat) : Int) < rd l (i : Nat))) || (decide (((i : Nat) : Int) ≤ rd l (b : Nat)) && decide (rd l (b : Nat) ≤ rd l (i : Nat)))
theorem sysD_sysB {l : List Int} (hl : l.length ≤ 12) (h : sysD l = true) : sysB l = true := by
 have H : ∀ i : Nat, i < l.length → (0 ≤ rd l (i : Nat) ∧ rd l (i : Nat) < (l.length : Nat) ∧ rd l (i : Nat) ≠ ((i : Nat) : Int) ∧ rd l (rd l (i : Nat)) = ((i : Nat) : Int)) ∧
   ∀ b : Nat, b < l.length → i < b → ((b : Nat) : Int) < rd l (i : Nat) → ((i : Nat) : Int) ≤ rd l (b : Nat) ∧ rd l (b : Nat) ≤ rd l (i : Nat) := by
  intro i hi
  have g := List.all_eq_true.1 h i (List.mem_range.2 hi)
  simp only [Bool.and_eq_true, decide_eq_true_eq, beq_iff_eq, Bool.not_eq_true', beq_eq_false_iff_ne, List.all_eq_true, List.mem_range, Bool.or_eq_true, decide_eq_false_iff_not] at g
  obtain ⟨⟨⟨⟨g1, g2⟩, g3⟩, g4⟩, g5⟩ := g
  refine ⟨⟨g1, g2, g3, g4⟩, fun b hb h1 h2 => ?_⟩
  rcases g5 b hb with (h | h) | h
  ·exact absurd h1 h
  ·exact absurd h2 h
  ·exact h
 unfold sysB
 refine tf_t ⟨hl, ?_⟩
 have N : ∀ i : Int, 0 ≤ i → i < (l.length : Nat) → ∃ n : Nat, i = (n : Int) ∧ n < l.length := fun i h0 h1 => ⟨i.toNat, by omega, by omega⟩
 constructor
 ·intro i h0 h1; obtain ⟨n, rfl, hn⟩ := N i h0 h1; exact (H n hn).1.1
 ·intro i h0 h1; obtain ⟨n, rfl, hn⟩ := N i h0 h1; exact (H n hn).1.2.1
 ·intro i h0 h1; obtain ⟨n, rfl, hn⟩ := N i h0 h1; exact (H n hn).1.2.2.1
 ·intro i h0 h1; obtain ⟨n, rfl, hn⟩ := N i h0 h1; exact (H n hn).1.2.2.2
 ·intro a b h0 h1 h2 h3
  obtain ⟨n, rfl, hn⟩ := N a h0 h1
  have := (H n hn).1.2.1
  obtain ⟨c, rfl, hc⟩ := N b (by omega) (by omega)
  exact (H n hn).2 c hc (by omega) h3
def chk : Nat → List Int → List Int → Int → Bool
 | 0, out, op, _ => !(op.length == 0) || sysD out
 | d + 1, out, op, i => chk d out (op ++ [i]) (i + 1) &&
   (op.length == 0 || chk d ((out.set (rd op ((op.length : Int) - 1)).toNat i).set i.toNat (rd op ((op.length : Int) - 1))) (op.take (op.length - 1)) (i + 1))
theorem chk_pz (s : ByteArray) (d : Nat) : ∀ (out op : List Int) (i : Int) (o p : List Int), chk d out op i = true → pz d s out op i = some (o, p) → p.length = 0 → sysD o = true := by
 induction d with
 | zero =>
  intro out op i o p hc h hp
  unfold pz at h
  obtain ⟨rfl, rfl⟩ := Prod.mk.inj (Option.some.inj h)
  unfold chk at hc
  rw [hp] at hc
  simpa using hc
 | succ d ih =>
  intro out op i o p hc h hp
  unfold chk at hc
  rw [Bool.and_eq_true, Bool.or_eq_true] at hc
  unfold pz at h
  split at h
  ·exact ih _ _ _ _ _ hc.1 h hp
  ·split at h
   ·rename_i e
    rcases hc.2 with g | g
    ·have := beq_iff_eq.1 g; omega
    ·exact ih _ _ _ _ _ g h hp
   ·cases h
theorem chk_all : ((List.range 13).all fun n => chk n (List.replicate n 0) [] 0) = true := by decide +kernel
theorem parsed_sys (s : ByteArray) (h : (parsed s).2 = true) : sysB (parsed s).1 = true ∧ (parsed s).1.length = s.size := by
 unfold parsed at *
 split at h
 ·cases h
 ·rename_i hs
  rw [if_neg hs]
  have hc := List.all_eq_true.1 chk_all s.size (List.mem_range.2 (by omega))
  cases e : pz s.size s (List.replicate s.size 0) [] 0 with
  | none => rw [e] at h; cases h
  | some x =>
   obtain ⟨o, p⟩ := x
   rw [e] at h
   have hl := pz_length _ _ _ _ _ _ _ e
   rw [List.length_replicate] at hl
   by_cases hp : p.length = 0
   ·have hd := chk_pz s s.size _ _ _ _ _ hc e hp
    simp only [pzOut, if_pos hp]
    exact ⟨sysD_sysB (by omega) hd, hl⟩
   ·simp only [pzOut, if_neg hp] at h
    cases h
theorem ixb_cases (c : UInt8) : ∀ l : List UInt8, (Go.Lib.indexByte l c = -1 ∧ ∀ j (h : j < l.length), l[j] ≠ c) ∨
  ∃ i : Nat, Go.Lib.indexByte l c = (i : Int) ∧ ∃ h : i < l.length, l[i] = c ∧ ∀ j (hj : j < i), l[j]'(by omega) ≠ c
 | [] => .inl ⟨rfl, fun j h => absurd h (by simp)⟩
 | b :: l => by
  unfold Go.Lib.indexByte
  by_cases hb : (b == c) = true
  ·rw [if_pos hb]
   exact .inr ⟨0, rfl, by simp, by simpa using hb, fun j hj => absurd hj (by omega)⟩
  ·rw [if_neg hb]
   have hb' : b ≠ c := by simpa using hb
   rcases ixb_cases c l with ⟨e, hn⟩ | ⟨i, e, hi, hc, hn⟩
   ·refine .inl ⟨by rw [e]; rfl, fun j h => ?_⟩
    rcases j with _ | j
    ·exact hb'
    ·simpa using hn j (by simpa using h)
   ·refine .inr ⟨i + 1, ?_, by simpa using hi, by simpa using hc, fun j hj => ?_⟩
    ·rw [e, if_neg (by first | (simp; done) | (simp; omega))]; try omega
    ·rcases j with _ | j
     ·exact hb'
     ·simpa using hn j (by omega)
theorem size_data (s : ByteArray) : s.data.toList.length = s.size := Array.length_toList
theorem bt_data (s : ByteArray) (i : Nat) (h : i < s.data.toList.length) : bt s (i : Int) = ((s.data.toList[i]).toNat : Int) := by
 have hs : i < s.size := by rw [← size_data]; exact h
 unfold bt
 rw [dif_pos (show ((i : Nat) : Int).toNat < s.size by omega)]
 rfl
theorem bt_bar (s : ByteArray) (i : Nat) (h : i < s.data.toList.length) : bt s (i : Int) = 124 ↔ s.data.toList[i] = 124 := by
 rw [bt_data s i h]
 constructor
 ·intro e
  apply UInt8.toNat_inj.1
  show _ = 124
  omega
 ·intro e; rw [e]; rfl
theorem bar_cases (s : ByteArray) : (Go.Lib.indexByte s.data.toList 124 = -1 ∧ ∀ j : Int, 0 ≤ j → j < s.size → bt s j ≠ 124) ∨
  ∃ i : Int, Go.Lib.indexByte s.data.toList 124 = i ∧ 0 ≤ i ∧ i < s.size ∧ bt s i = 124 ∧ ∀ j : Int, 0 ≤ j → j < i → bt s j ≠ 124 := by
 have hz := size_data s
 rcases ixb_cases 124 s.data.toList with ⟨e, hn⟩ | ⟨i, e, hi, hc, hn⟩
 ·refine .inl ⟨e, fun j h0 h1 hb => ?_⟩
  obtain ⟨n, rfl⟩ := Int.eq_ofNat_of_zero_le h0
  exact hn n (by omega) ((bt_bar s n (by omega)).1 hb)
 ·refine .inr ⟨i, e, by omega, by omega, (bt_bar s i hi).2 hc, fun j h0 h1 hb => ?_⟩
  obtain ⟨n, rfl⟩ := Int.eq_ofNat_of_zero_le h0
  exact hn n (by omega) ((bt_bar s n (by omega)).1 hb)
theorem first_bar (s : ByteArray) (n : Int) (d : Nat) : ∀ a : Int, n = a + d → (∀ j : Int, a ≤ j → j < n → bt s j ≠ 124) ∨ ∃ i : Int, a ≤ i ∧ i < n ∧ bt s i = 124 ∧ ∀ j : Int, a ≤ j → j < i → bt s j ≠ 124 := by
 induction d with
 | zero => intro a ha; exact .inl fun j h1 h2 => absurd h1 (by omega)
 | succ d ih =>
  intro a ha
  by_cases hb : bt s a = 124
  ·exact .inr ⟨a, by omega, by omega, hb, fun j h1 h2 => absurd h1 (by omega)⟩
  ·rcases ih (a + 1) (by omega) with h | ⟨i, h1, h2, h3, h4⟩
   ·exact .inl fun j h1 h2 => if e : j = a then e ▸ hb else h j (by omega) h2
   ·exact .inr ⟨i, by omega, h2, h3, fun j g1 g2 => if e : j = a then e ▸ hb else h4 j (by omega) g2⟩
theorem pz_bar (s : ByteArray) (d : Nat) : ∀ (out op : List Int) (i j : Int), i ≤ j → j < i + d → bt s j = 124 → pz d s out op i = none := by
 induction d with
 | zero => intro out op i j h1 h2; omega
 | succ d ih =>
  intro out op i j h1 h2 hb
  unfold pz
  split
  ·rename_i h
   exact ih _ _ _ j (by rcases Int.lt_or_eq_of_le h1 with g | g; omega; subst g; omega) (by omega) hb
  ·split
   ·rename_i h
    exact ih _ _ _ j (by rcases Int.lt_or_eq_of_le h1 with g | g; omega; subst g; omega) (by omega) hb
   ·rfl
theorem split_none (s : ByteArray) (hs : s.size ≤ 1048576) (d : Nat) : ∀ (acc : List ByteArray) (fr i : Int), 0 ≤ fr → fr ≤ s.size → 0 ≤ i → (s.size : Int) = i + d → acc.length ≤ 2000000 →
  (∀ j : Int, i ≤ j → j < s.size → bt s j ≠ 124) → (∃ K, ∀ k, K ≤ k → spec_l1Split.l0 k s 124 acc fr i = some (acc ++ [s.extract fr.toNat s.size])) := by
 induction d with
 | zero =>
  intro acc fr i h0 h1 h2 hd ha hn
  refine ev_rs 0 fun m _ => ?_
  simp (disch := omega) only [spec_l1Split.l0, if_neg, if_pos]
 | succ d ih =>
  intro acc fr i h0 h1 h2 hd ha hn
  obtain ⟨K, ih⟩ := ih acc fr (i + 1) h0 h1 (by omega) (by omega) ha (fun j g1 g2 => hn j (by omega) g2)
  have hb := hn i (by omega) (by omega)
  refine ev_rs K fun m hm => ?_
  simp (disch := omega) only [spec_l1Split.l0, if_pos, if_neg, w64]
  exact ih m hm
theorem split_skip {R : List ByteArray} (s : ByteArray) (hs : s.size ≤ 1048576) (b : Int) (hb : bt s b = 124) (hb0 : b < s.size) (d : Nat) : ∀ (acc : List ByteArray) (fr i : Int), 0 ≤ fr → fr ≤ i → 0 ≤ i → b = i + d → acc.length ≤ 2000000 →
  (∀ j : Int, i ≤ j → j < b → bt s j ≠ 124) → (∃ K, ∀ k, K ≤ k → spec_l1Split.l0 k s 124 (acc ++ [s.extract fr.toNat b.toNat]) (b + 1) (b + 1) = some (R)) → (∃ K, ∀ k, K ≤ k → spec_l1Split.l0 k s 124 acc fr i = some (R)) := by
 induction d with
 | zero =>
  intro acc fr i h0 h1 h2 hd ha hn ⟨K, h⟩
  obtain rfl : b = i := by omega
  refine ev_rs K fun m hm => ?_
  simp (disch := omega) only [spec_l1Split.l0, if_neg, if_pos, w64]
  exact h m hm
 | succ d ih =>
  intro acc fr i h0 h1 h2 hd ha hn h
  obtain ⟨K, ih⟩ := ih acc fr (i + 1) h0 (by omega) (by omega) (by omega) ha (fun j g1 g2 => hn j (by omega) g2) h
  have hb := hn i (by omega) (by omega)
  refine ev_rs K fun m hm => ?_
  simp (disch := omega) only [spec_l1Split.l0, if_pos, if_neg, w64]
  exact ih m hm
theorem split_long (s : ByteArray) (hs : s.size ≤ 1048576) (d : Nat) : ∀ (acc : List ByteArray) (fr i : Int), 0 ≤ fr → fr ≤ i → 0 ≤ i → (s.size : Int) = i + d → acc.length ≤ 8 + (i.toNat : Nat) →
  ∃ R : List ByteArray, acc.length < R.length ∧ (∃ K, ∀ k, K ≤ k → spec_l1Split.l0 k s 124 acc fr i = some (R)) := by
 induction d with
 | zero =>
  intro acc fr i h0 h1 h2 hd ha
  obtain ⟨K, h⟩ := split_none s hs 0 acc fr i h0 (by omega) h2 hd (by omega) (fun j g1 g2 => absurd g1 (by omega))
  exact ⟨_, by simp, K, h⟩
 | succ d ih =>
  intro acc fr i h0 h1 h2 hd ha
  by_cases hb : bt s i = 124
  ·obtain ⟨R, hR, K, ih⟩ := ih (acc ++ [s.extract fr.toNat i.toNat]) (i + 1) (i + 1) (by omega) (by omega) (by omega) (by omega) (by simp; omega)
   refine ⟨R, by simp at hR; omega, ev_rs K fun m hm => ?_⟩
   simp (disch := omega) only [spec_l1Split.l0, if_pos, w64]
   exact ih m hm
  ·obtain ⟨R, hR, K, ih⟩ := ih acc fr (i + 1) (by omega) (by omega) (by omega) (by omega) (by omega)
   refine ⟨R, hR, ev_rs K fun m hm => ?_⟩
   simp (disch := omega) only [spec_l1Split.l0, if_pos, if_neg, w64]
   exact ih m hm
theorem pairB_size {l m : List Int} (h : pairB l m = true) : l.length ≤ 12 ∧ l.length = m.length := by
 simp only [pairB, Bool.and_eq_true, decide_eq_true_eq] at h
 exact ⟨(tf_iff.1 h.1.1).1, h.2⟩
theorem pzI_length (s : ByteArray) : (pzImpl (pz s.size s (List.replicate s.size 0) [] 0)).1.length ≤ s.size ∧ ((pzImpl (pz s.size s (List.replicate s.size 0) [] 0)).2 = true → (pzImpl (pz s.size s (List.replicate s.size 0) [] 0)).1.length = s.size) := by
 cases h : pz s.size s (List.replicate s.size 0) [] 0 with
 | none => simp [pzImpl]
 | some x =>
  have := pz_length _ _ _ _ _ _ _ h
  simp at this
  simp [pzImpl, this]
noncomputable def mea2 (a b : List Int × Bool) : List Int × List Int × Bool := if a.2 = true ∧ b.2 = true ∧ pairB a.1 b.1 = true then (a.1, b.1, true) else ([], [], false)
theorem mea2_length (a b : List Int × Bool) : (mea2 a b).1.length ≤ 12 ∧ (mea2 a b).2.1.length ≤ 12 := by
 unfold mea2
 split
 ·rename_i h
  obtain ⟨h1, h2⟩ := pairB_size h.2.2
  simp only; omega
 ·simp
theorem mea2_parsed (p q : ByteArray) : mea2 (parsed p) (parsed q) = mea2 (pzImpl (pz p.size p (List.replicate p.size 0) [] 0)) (pzImpl (pz q.size q (List.replicate q.size 0) [] 0)) := by
 obtain ⟨_, lp⟩ := pzI_length p
 obtain ⟨_, lq⟩ := pzI_length q
 unfold parsed
 rw [← pz_both, ← pz_both]
 generalize pzImpl (pz p.size p (List.replicate p.size 0) [] 0) = a at *
 generalize pzImpl (pz q.size q (List.replicate q.size 0) [] 0) = b at *
 by_cases h : a.2 = true ∧ b.2 = true ∧ pairB a.1 b.1 = true
 ·obtain ⟨h1, h2⟩ := pairB_size h.2.2
  have := lp h.1
  have := lq h.2.1
  rw [if_neg (show ¬ (p.size : Int) > 12 by omega), if_neg (show ¬ (q.size : Int) > 12 by omega), if_pos h.1, if_pos h.2.1]
  simp only [mea2, if_pos h, if_pos h.2.2, true_and]
 ·conv => rhs; rw [mea2, if_neg h]
  rw [mea2, if_neg]
  intro g
  obtain ⟨g1, g2, g3⟩ := g
  split at g1
  ·simp at g1
  ·split at g1
   ·split at g2
    ·simp at g2
    ·split at g2
     ·rename_i e1 e2 e3 e4
      rw [if_neg e1, if_pos e2, if_neg e3, if_pos e4] at g3
      exact h ⟨e2, e4, g3⟩
     ·simp at g2
   ·simp at g1
def letters (l : List Int) : List Int := (List.range l.length).map fun i => if ((i : Nat) : Int) < rd l (i : Nat) then 40 else 41
def chkT : Nat → List Int → List Int → Int → List Int → Bool
 | 0, out, op, _, cs => !(op.length == 0) || (letters out == cs)
 | d + 1, out, op, i, cs => chkT d out (op ++ [i]) (i + 1) (cs ++ [40]) &&
   (op.length == 0 || chkT d ((out.set (rd op ((op.length : Int) - 1)).toNat i).set i.toNat (rd op ((op.length : Int) - 1))) (op.take (op.length - 1)) (i + 1) (cs ++ [41]))
theorem range_map_succ (f : Nat → Int) (d : Nat) : (List.range (d + 1)).map f = f 0 :: (List.range d).map (fun j => f (j + 1)) := by
 rw [List.range_succ_eq_map, List.map_cons, List.map_map]; rfl
theorem chkT_pz (s : ByteArray) (d : Nat) : ∀ (out op : List Int) (i : Nat) (cs o p : List Int), chkT d out op (i : Int) cs = true → pz d s out op (i : Int) = some (o, p) → p.length = 0 → letters o = cs ++ (List.range d).map (fun j => bt s ((i + j : Nat) : Int)) := by
 induction d with
 | zero =>
  intro out op i cs o p hc h hp
  unfold pz at h
  obtain ⟨rfl, rfl⟩ := Prod.mk.inj (Option.some.inj h)
  unfold chkT at hc
  rw [hp] at hc
  simpa using hc
 | succ d ih =>
  intro out op i cs o p hc h hp
  unfold chkT at hc
  rw [Bool.and_eq_true, Bool.or_eq_true] at hc
  unfold pz at h
  have hs : (fun j => bt s ((i + (j + 1) : Nat) : Int)) = (fun j => bt s (((i + 1) + j : Nat) : Int)) := by
   funext j; congr 1; omega
  rw [range_map_succ, hs]
  rw [show ((i : Int) + 1) = ((i + 1 : Nat) : Int) by omega] at hc h
  split at h
  ·rename_i e
   rw [ih _ _ _ _ _ _ hc.1 h hp, List.append_assoc, ← e]
   rfl
  ·split at h
   ·rename_i e
    rcases hc.2 with g | g
    ·have := beq_iff_eq.1 g; omega
    ·rw [ih _ _ _ _ _ _ g h hp, List.append_assoc, ← e.1]
     rfl
   ·cases h
theorem chkT_all : ((List.range 13).all fun n => chkT n (List.replicate n 0) [] 0 []) = true := by decide +kernel
theorem parsed_letters (s : ByteArray) (h : (parsed s).2 = true) : letters (parsed s).1 = (List.range s.size).map (fun j => bt s ((j : Nat) : Int)) := by
 unfold parsed at *
 split at h
 ·cases h
 ·rename_i hs
  rw [if_neg hs]
  have hc := List.all_eq_true.1 chkT_all s.size (List.mem_range.2 (by omega))
  cases e : pz s.size s (List.replicate s.size 0) [] 0 with
  | none => rw [e] at h; cases h
  | some x =>
   obtain ⟨o, p⟩ := x
   rw [e] at h
   by_cases hp : p.length = 0
   ·have hd := chkT_pz s s.size _ _ 0 _ _ _ hc e hp
    simp only [pzOut, if_pos hp]
    rw [hd, List.nil_append]
    congr 1
    funext j; congr 1; omega
   ·simp only [pzOut, if_neg hp] at h
    cases h
theorem son_size (l : List Int) : (strOfNums l).size = l.length := by
 rw [← size_data]; simp [strOfNums]
theorem ba_ext {a b : ByteArray} (h : a.data.toList = b.data.toList) : a = b := by
 rcases a with ⟨⟨a⟩⟩
 rcases b with ⟨⟨b⟩⟩
 have : a = b := h
 rw [this]
theorem bytes_map (s : ByteArray) : (List.range s.size).map (fun j => bt s ((j : Nat) : Int)) = s.data.toList.map (fun b => ((b.toNat : Nat) : Int)) := by
 have hl : s.data.toList.length = s.size := Array.length_toList
 refine List.ext_getElem (by simp [hl]) fun i h1 h2 => ?_
 simp only [List.getElem_map, List.getElem_range]
 exact bt_data s i (by simpa using h2)
theorem PM_spec2 (s p q : ByteArray) (hp : p.size ≤ 1048576) (hq : q.size ≤ 1048576) (h : (∃ K, ∀ k, K ≤ k → spec_l1Split.f k s 124 = some ([p, q]))) : (∃ K, ∀ k, K ≤ k → spec_ParseMeander.f k s = some (mea2 (parsed p) (parsed q))) := by
 obtain ⟨K0, h0⟩ := h
 obtain ⟨K1, h1⟩ := ahParse_any p hp
 obtain ⟨K2, h2⟩ := ahParse_any q hq
 rw [← parsed] at h1 h2
 have l1 := parsed_length p
 have l2 := parsed_length q
 obtain ⟨K3, h3⟩ := mePair_any (parsed p).1 (parsed q).1 (by omega) (by omega)
 refine ⟨K0 + K1 + K2 + K3, fun k hk => ?_⟩
 have e0 : rdOf ByteArray.empty [p, q] 0 = p := rfl
 have e1 : rdOf ByteArray.empty [p, q] 1 = q := rfl
 unfold spec_ParseMeander.f spec_meParse.f
 rw [h0 k (by omega), Option.bind_some, if_pos (by rfl), if_pos (by simp), e0, h1 k (by omega), Option.bind_some, if_pos (by simp), e1, h2 k (by omega), Option.bind_some]
 unfold mea2
 by_cases a : (parsed p).2 = true
 ·by_cases b : (parsed q).2 = true
  ·rw [if_pos a, if_pos b, h3 k (by omega), Option.bind_some]
   by_cases c : pairB (parsed p).1 (parsed q).1 = true
   ·rw [if_pos c, if_pos ⟨a, b, c⟩]; rfl
   ·rw [if_neg c, if_neg (fun g => c g.2.2)]; rfl
  ·rw [if_pos a, if_neg b, if_neg (fun g => b g.2.1)]; rfl
 ·rw [if_neg a, if_neg (fun g => a g.1)]; rfl
theorem PM_specN (s : ByteArray) (R : List ByteArray) (hR : ¬ (R.length : Int) = 2) (h : (∃ K, ∀ k, K ≤ k → spec_l1Split.f k s 124 = some (R))) : (∃ K, ∀ k, K ≤ k → spec_ParseMeander.f k s = some (([], [], false))) := by
 obtain ⟨K0, h0⟩ := h
 refine ⟨K0, fun k hk => ?_⟩
 unfold spec_ParseMeander.f spec_meParse.f
 rw [h0 k (by omega), Option.bind_some, if_neg hR]
 rfl
theorem PM_impl (s p q : ByteArray) (is : Bool) (hp : p.size ≤ 1048576) (hq : q.size ≤ 1048576) (h : strings_Cut.f s (⟨#[124]⟩ : ByteArray) = some (p, q, is)) :
  (∃ K, ∀ k, K ≤ k → impl_ParseMeander.f k s = some (if is = true then mea2 (pzImpl (pz p.size p (List.replicate p.size 0) [] 0)) (pzImpl (pz q.size q (List.replicate q.size 0) [] 0)) else ([], [], false))) := by
 obtain ⟨K1, h1⟩ := parseSystem_any p hp
 obtain ⟨K2, h2⟩ := parseSystem_any q hq
 obtain ⟨lp, _⟩ := pzI_length p
 obtain ⟨lq, _⟩ := pzI_length q
 generalize pzImpl (pz p.size p (List.replicate p.size 0) [] 0) = a at *
 generalize pzImpl (pz q.size q (List.replicate q.size 0) [] 0) = b at *
 obtain ⟨K3, h3⟩ := IsPair_any a.1 b.1 (by omega) (by omega)
 refine ⟨K1 + K2 + K3, fun k hk => ?_⟩
 unfold impl_ParseMeander.f
 rw [h, Option.bind_some]
 simp only []
 rw [h1 k (by omega), Option.bind_some, h2 k (by omega), Option.bind_some]
 cases is
 ·simp
 ·rw [if_pos rfl, if_pos rfl]
  unfold mea2
  by_cases ha : a.2 = true
  ·by_cases hb : b.2 = true
   ·rw [if_pos ha, if_pos hb, h3 k (by omega), Option.bind_some]
    by_cases c : pairB a.1 b.1 = true
    ·rw [if_pos c, if_pos ⟨ha, hb, c⟩]
    ·rw [if_neg c, if_neg (fun g => c g.2.2)]
   ·rw [if_pos ha, if_neg hb, if_neg (fun g => hb g.2.1)]
  ·rw [if_neg ha, if_neg (fun g => ha g.1)]
theorem bt_extract (s : ByteArray) (a j : Int) (ha : 0 ≤ a) (hj : 0 ≤ j) (hs : a + j < s.size) : bt (s.extract a.toNat s.size) j = bt s (a + j) := by
 have hz : (s.extract a.toNat s.size).size = s.size - a.toNat := by simp
 unfold bt
 rw [dif_pos (by omega), dif_pos (by omega), ByteArray.getElem_extract]
 have e : a.toNat + j.toNat = (a + j).toNat := by omega
 simp only [e]
theorem mea2_true {a b : List Int × Bool} (h : (mea2 a b).2.2 = true) : a = ((mea2 a b).1, true) ∧ b = ((mea2 a b).2.1, true) ∧ pairB (mea2 a b).1 (mea2 a b).2.1 = true := by
 unfold mea2 at *
 split at h
 ·rename_i c
  rw [if_pos c]
  obtain ⟨a1, a2⟩ := a
  obtain ⟨b1, b2⟩ := b
  obtain ⟨c1, c2, c3⟩ := c
  dsimp only at c1 c2 c3
  subst c1 c2
  exact ⟨rfl, rfl, c3⟩
 ·cases h
theorem split_bar (s : ByteArray) (i : Int) (h0 : 0 ≤ i) (h1 : i < s.size) (hb : bt s i = 124) : s = (s.extract 0 i.toNat ++ (⟨#[124]⟩ : ByteArray)) ++ s.extract (i + 1).toNat s.size := by
 have hz := size_data s
 have hi : i.toNat < s.data.toList.length := by omega
 have hc := (bt_bar s i.toNat hi).1 (by rw [show ((i.toNat : Nat) : Int) = i by omega]; exact hb)
 apply ba_ext
 have e : (i + 1).toNat = i.toNat + 1 := by omega
 rw [e]
 simp only [ByteArray.data_append, ByteArray.data_extract, Array.toList_append, Array.toList_extract, List.extract_eq_take_drop, List.drop_zero, Nat.sub_zero]
 have ht : (s.data.toList.drop (i.toNat + 1)).take (s.size - (i.toNat + 1)) = s.data.toList.drop (i.toNat + 1) := List.take_of_length_le (by rw [List.length_drop]; omega)
 rw [ht, List.append_assoc]
 conv => lhs; rw [← List.take_append_drop i.toNat s.data.toList, List.drop_eq_getElem_cons hi, hc]
 rfl
theorem PM_any (s : ByteArray) (hs : s.size ≤ 1048576) : ∃ R : List Int × List Int × Bool, (∃ K, ∀ k, K ≤ k → impl_ParseMeander.f k s = some (R)) ∧ (∃ K, ∀ k, K ≤ k → spec_ParseMeander.f k s = some (R)) ∧ R.1.length ≤ 12 ∧ R.2.1.length ≤ 12 ∧ (R.2.2 = true → ∃ p q : ByteArray, s = (p ++ (⟨#[124]⟩ : ByteArray)) ++ q ∧ parsed p = (R.1, true) ∧ parsed q = (R.2.1, true) ∧ pairB R.1 R.2.1 = true) := by
 have e1 : (⟨#[124]⟩ : ByteArray).size = 1 := rfl
 have e2 : (⟨#[124]⟩ : ByteArray).data.toList.headD 0 = 124 := rfl
 rcases bar_cases s with ⟨e, hn⟩ | ⟨i, e, h0, h1, hb, hn⟩
 ·refine ⟨([], [], false), ?_, ?_, by simp, by simp, fun g => by cases g⟩
  ·have hc : strings_Cut.f s (⟨#[124]⟩ : ByteArray) = some (s, ⟨#[]⟩, false) := by
    unfold strings_Cut.f stringslite_Cut.f stringslite_Index.f
    rw [if_pos e1, e2, e, Option.bind_some, if_neg (by decide), Option.bind_some]
   exact PM_impl s s ⟨#[]⟩ false hs (by simp [ByteArray.size]) hc
  ·refine PM_specN s [s.extract 0 s.size] (by simp) ?_
   unfold spec_l1Split.f
   exact split_none s hs s.size [] 0 0 (by omega) (by omega) (by omega) (by omega) (by simp) hn
 ·have hc : strings_Cut.f s (⟨#[124]⟩ : ByteArray) = some (s.extract 0 i.toNat, s.extract (i + 1).toNat s.size, true) := by
   unfold strings_Cut.f stringslite_Cut.f stringslite_Index.f
   rw [if_pos e1, e2, e, Option.bind_some, e1]
   simp (disch := omega) only [if_pos, w64]
   rfl
  have zp : (s.extract 0 i.toNat).size ≤ 1048576 := by simp; omega
  have zq : (s.extract (i + 1).toNat s.size).size = s.size - (i + 1).toNat := by simp
  obtain ⟨KI, hI⟩ := PM_impl s _ _ true zp (by omega) hc
  rw [if_pos rfl] at hI
  rcases first_bar s s.size ((s.size : Int) - (i + 1)).toNat (i + 1) (by omega) with hn2 | ⟨b, g1, g2, g3, g4⟩
  ·refine ⟨mea2 (parsed (s.extract 0 i.toNat)) (parsed (s.extract (i + 1).toNat s.size)), ?_, ?_, (mea2_length _ _).1, (mea2_length _ _).2, fun g => ⟨_, _, split_bar s i h0 h1 hb, mea2_true g⟩⟩
   ·rw [mea2_parsed]; exact ⟨KI, hI⟩
   ·refine PM_spec2 s _ _ zp (by omega) ?_
    unfold spec_l1Split.f
    refine split_skip s hs i hb h1 i.toNat [] 0 0 (by omega) (by omega) (by omega) (by omega) (by simp) hn ?_
    exact split_none s hs ((s.size : Int) - (i + 1)).toNat [s.extract 0 i.toNat] (i + 1) (i + 1) (by omega) (by omega) (by omega) (by omega) (by simp) hn2
  ·refine ⟨([], [], false), ?_, ?_, by simp, by simp, fun g => by cases g⟩
   ·have hz : pz (s.extract (i + 1).toNat s.size).size (s.extract (i + 1).toNat s.size) (List.replicate (s.extract (i + 1).toNat s.size).size 0) [] 0 = none :=
     pz_bar _ _ _ _ 0 (b - (i + 1)) (by omega) (by omega) (by rw [bt_extract s (i + 1) (b - (i + 1)) (by omega) (by omega) (by omega), show i + 1 + (b - (i + 1)) = b by omega]; exact g3)
    rw [hz] at hI
    have : mea2 (pzImpl (pz (s.extract 0 i.toNat).size (s.extract 0 i.toNat) (List.replicate (s.extract 0 i.toNat).size 0) [] 0)) (pzImpl none) = ([], [], false) := by
     unfold mea2; rw [if_neg (fun g => by simpa [pzImpl] using g.2.1)]
    rw [this] at hI
    exact ⟨KI, hI⟩
   ·obtain ⟨R, hR, K, h⟩ := split_long s hs ((s.size : Int) - (b + 1)).toNat [s.extract 0 i.toNat, s.extract (i + 1).toNat b.toNat] (b + 1) (b + 1) (by omega) (by omega) (by omega) (by omega) (by simp; omega)
    refine PM_specN s R (by simp at hR; omega) ?_
    unfold spec_l1Split.f
    refine split_skip s hs i hb h1 i.toNat [] 0 0 (by omega) (by omega) (by omega) (by omega) (by simp) hn ?_
    exact split_skip s hs b g3 g2 (b - (i + 1)).toNat [s.extract 0 i.toNat] (i + 1) (i + 1) (by omega) (by omega) (by omega) (by omega) (by simp) g4 ⟨K, h⟩
def txAt (l : List Int) : Bool := decide ((txt l).size ≤ 12) && decide (pzOut (pz (txt l).size (txt l) (List.replicate (txt l).size 0) [] 0) = (l, true)) && decide ((txt l).data.toList.map (fun b => ((b.toNat : Nat) : Int)) = letters l) && ((txt l).data.toList.all fun b => b != 124)
theorem txAt_table : ((List.range 7).all fun n => (Pl.sysList n).all txAt) = true := by decide +kernel
theorem txAt_any {l : List Int} (h : sysB l = true) : (txt l).size ≤ 12 ∧ parsed (txt l) = (l, true) ∧ (txt l).data.toList.map (fun b => ((b.toNat : Nat) : Int)) = letters l ∧ ∀ j : Int, 0 ≤ j → j < (txt l).size → bt (txt l) j ≠ 124 := by
 have t := of_table txAt_table h
 unfold txAt at t
 simp only [Bool.and_eq_true, decide_eq_true_eq] at t
 obtain ⟨⟨⟨t1, t2⟩, t3⟩, t4⟩ := t
 refine ⟨t1, by unfold parsed; rw [if_neg (by omega)]; exact t2, t3, fun j j0 j1 e => ?_⟩
 have hz := size_data (txt l)
 have hj : j.toNat < (txt l).data.toList.length := by omega
 have := (bt_bar (txt l) j.toNat hj).1 (by rw [show ((j.toNat : Nat) : Int) = j by omega]; exact e)
 have g := List.all_eq_true.1 t4 _ (List.getElem_mem hj)
 rw [this] at g
 simp at g
theorem text_of_parsed (s : ByteArray) {l : List Int} (h : parsed s = (l, true)) : txt l = s := by
 have h2 : (parsed s).2 = true := by rw [h]
 have hs := (parsed_sys s h2).1
 have hl := parsed_letters s h2
 rw [h] at hs hl
 have e := (txAt_any hs).2.2.1.trans (hl.trans (bytes_map s))
 refine ba_ext ?_
 have inj : ∀ (x y : List UInt8), x.map (fun b => ((b.toNat : Nat) : Int)) = y.map (fun b => ((b.toNat : Nat) : Int)) → x = y := by
  intro x
  induction x with
  | nil => intro y hy; cases y with
   | nil => rfl
   | cons b y => simp at hy
  | cons a x ih => intro y hy; cases y with
   | nil => simp at hy
   | cons b y =>
    simp only [List.map_cons, List.cons.injEq] at hy
    rw [ih y hy.2, UInt8.toNat_inj.1 (by omega : a.toNat = b.toNat)]
 exact inj _ _ e
theorem bt_at (s : ByteArray) (j : Int) (j0 : 0 ≤ j) (h : j.toNat < s.data.toList.length) : bt s j = ((s.data.toList[j.toNat]).toNat : Int) := by
 have := bt_data s j.toNat h
 rwa [show ((j.toNat : Nat) : Int) = j by omega] at this
theorem parse_text {l m : List Int} (h : pairB l m = true) : (∃ K, ∀ k, K ≤ k → impl_ParseMeander.f k (bar2 l m) = some ((l, m, true))) := by
 obtain ⟨hl, hm⟩ := pairB_sys h
 obtain ⟨z1, p1, _, n1⟩ := txAt_any hl
 obtain ⟨z2, p2, _, n2⟩ := txAt_any hm
 have d1 := size_data (txt l)
 have d2 := size_data (txt m)
 have hd : (bar2 l m).data.toList = (txt l).data.toList ++ 124 :: (txt m).data.toList := by
  unfold bar2
  simp only [ByteArray.data_append, Array.toList_append, List.append_assoc]
  rfl
 have d3 := size_data (bar2 l m)
 have hsz : (bar2 l m).size = (txt l).size + 1 + (txt m).size := by rw [← d3, hd, List.length_append, List.length_cons]; omega
 have hbar : bt (bar2 l m) (txt l).size = 124 := by
  rw [bt_at _ _ (by omega) (by omega)]
  simp only [hd, Int.toNat_natCast]
  rw [List.getElem_append_right (by omega)]
  simp only [d1, Nat.sub_self, List.getElem_cons_zero]
  rfl
 have e2 : (⟨#[124]⟩ : ByteArray).data.toList.headD 0 = 124 := rfl
 have e1 : (⟨#[124]⟩ : ByteArray).size = 1 := rfl
 rcases bar_cases (bar2 l m) with ⟨e, hn⟩ | ⟨i, e, h0, h1, hb, hn⟩
 ·exact absurd hbar (hn _ (by omega) (by omega))
 ·have hi : i = (txt l).size := by
   rcases Int.lt_trichotomy i (txt l).size with g | g | g
   ·exfalso
    refine n1 i h0 g ?_
    rw [bt_at _ _ h0 (by omega)]
    rw [bt_at _ _ h0 (by omega)] at hb
    simp only [hd] at hb
    rw [List.getElem_append_left (by omega)] at hb
    exact hb
   ·exact g
   ·exact absurd hbar (hn _ (by omega) g)
  subst hi
  have ep : (bar2 l m).extract 0 ((txt l).size : Int).toNat = txt l := by
   apply ba_ext
   rw [ByteArray.data_extract, Array.toList_extract, List.extract_eq_take_drop, hd, List.drop_zero, Int.toNat_natCast, Nat.sub_zero]
   rw [List.take_append_of_le_length (by omega), List.take_of_length_le (by omega)]
  have eq : (bar2 l m).extract (((txt l).size : Int) + 1).toNat (bar2 l m).size = txt m := by
   apply ba_ext
   rw [ByteArray.data_extract, Array.toList_extract, List.extract_eq_take_drop, hd, show (((txt l).size : Int) + 1).toNat = (txt l).data.toList.length + 1 by omega]
   rw [List.drop_append, List.drop_of_length_le (by omega), Nat.add_sub_cancel_left, List.nil_append, List.drop_succ_cons, List.drop_zero, List.take_of_length_le (by omega)]
  have hc : strings_Cut.f (bar2 l m) (⟨#[124]⟩ : ByteArray) = some (txt l, txt m, true) := by
   unfold strings_Cut.f stringslite_Cut.f stringslite_Index.f
   rw [if_pos e1, e2, e, Option.bind_some, e1]
   simp (disch := omega) only [if_pos, w64]
   rw [ep]
   rw [show (((txt l).size : Int) + ((1 : Nat) : Int)) = ((txt l).size : Int) + 1 by omega, eq]
   rfl
  obtain ⟨K, hK⟩ := PM_impl _ (txt l) (txt m) true (by omega) (by omega) hc
  rw [if_pos rfl, ← mea2_parsed, p1, p2] at hK
  have em : mea2 (l, true) (m, true) = (l, m, true) := if_pos ⟨rfl, rfl, h⟩
  rw [em] at hK
  exact ⟨K, hK⟩
theorem sSame_l (a : List Int) (hn : a.length < 4611686018427387904) (d : Nat) : ∀ i : Int, 0 ≤ i → (a.length : Int) - i ≤ d → (∃ K, ∀ k, K ≤ k → laws_sSame.l0 k a a (a.length : Int) i = some (true)) := by
 induction d with
 | zero =>
  intro i h0 hd
  refine ev_rs 0 fun m _ => ?_
  simp (disch := omega) only [laws_sSame.l0, if_neg]
 | succ d ih =>
  intro i h0 hd
  by_cases hlt : i < (a.length : Int)
  ·obtain ⟨K, ih⟩ := ih (i + 1) (by omega) (by omega)
   refine ev_rs K fun m hm => ?_
   simp (disch := omega) only [laws_sSame.l0, if_pos, w64, ih m hm, if_true]
  ·refine ev_rs 0 fun m _ => ?_
   simp (disch := omega) only [laws_sSame.l0, if_neg]
theorem sSame_any (a : List Int) (hn : a.length ≤ 35184372088832) : (∃ K, ∀ k, K ≤ k → laws_sSame.f k a a = some (true)) := by
 obtain ⟨K, h⟩ := sSame_l a (by omega) a.length 0 (by omega) (by omega)
 refine ⟨K, fun k hk => ?_⟩
 unfold laws_sSame.f
 rw [if_pos rfl, h k hk]
theorem big_any (a b : List Int) (ha : a.length ≤ 1048576) (hb : (b.length : Int) ≤ 1048576 - a.length) : laws_big.f a b = some false := by
 unfold laws_big.f
 rw [if_neg (by omega), w64 (by omega) (by omega)]
 congr 1
 exact decide_eq_false (by omega)
theorem big_yes (a b : List Int) (h : ¬ (a.length ≤ 1048576 ∧ (b.length : Int) ≤ 1048576 - a.length)) : laws_big.f a b = some true := by
 unfold laws_big.f
 by_cases h1 : (a.length : Int) > 1048576
 ·rw [if_pos h1]
 ·rw [if_neg h1, w64 (by omega) (by omega)]
  congr 1
  exact decide_eq_true (by omega)
theorem wrap_u64 (n : Int) : IntKind.u64.wrap n = n % 18446744073709551616 := by simp [IntKind.wrap, IntKind.bits, IntKind.signed]
theorem and255 (y : Int) : 0 ≤ Go.bits .and .u64 ((IntKind.u64.wrap y) / 1099511627776) 255 ∧ Go.bits .and .u64 ((IntKind.u64.wrap y) / 1099511627776) 255 < 256 := by
 rw [wrap_u64]
 have h := Go.bits_mask .u64 64 (by decide) (fun n h0 h1 => by rw [wrap_u64]; omega) 8 (by decide) (y % 18446744073709551616 / 1099511627776) (by omega) (by omega)
 rw [show (2 : Int) ^ 8 - 1 = 255 by decide, show (2 : Int) ^ 8 = 256 by decide] at h
 rw [h]; omega
def Bys (c : List Int) : Prop := c.length ≤ 1048576 ∧ ∀ x ∈ c, 0 ≤ x ∧ x < 256
theorem bys_of {c : List Int} (hl : c.length ≤ 1048576) (h : ∀ x ∈ c, (Lit.int .u8 x).wf = true) : Bys c := by
 refine ⟨hl, fun x hx => ?_⟩
 have := h x hx
 simp [Lit.wf, IntKind.min, IntKind.max, IntKind.bits, IntKind.signed] at this
 omega
theorem bindE {α β : Type} {x : Option α} {f : α → Option β} {a : α} {r : Option β} (h : x = some a) (h2 : f a = r) : x.bind f = r := by rw [h]; exact h2
theorem next_any {c : List Int} (hc : Bys c) (a s : Int) (h0 : 0 ≤ a) (h1 : a ≤ 4000000000000000000) : ∃ r s', spec_l1Cur_next.f c a s = some (r, a + 1, s') ∧ 0 ≤ r ∧ r < 256 := by
 have hl := hc.1
 unfold spec_l1Cur_next.f
 rw [w64 (x := a + 1) (by omega) (by omega)]
 by_cases h : a < (c.length : Int)
 ·have hm := hc.2 _ (rd_mem c a h0 h)
  rw [if_pos h, if_pos h0, if_pos (by omega), w64 (x := rd c a) (by omega) (by omega)]
  exact ⟨_, _, rfl, hm.1, hm.2⟩
 ·rw [if_neg h, if_neg (by omega)]
  refine ⟨_, _, rfl, ?_⟩
  have hb := and255 (IntKind.u64.wrap (IntKind.u64.wrap (s * 6364136223846793005)) + 1442695040888963407)
  rw [w64 (by omega) (by omega)]
  exact hb
theorem pick_any {c : List Int} (hc : Bys c) (a s n : Int) (h0 : 0 ≤ a) (h1 : a ≤ 4000000000000000000) (hn : 1 ≤ n) (hn2 : n ≤ 200) :
  ∃ r a' s', spec_l1Cur_pick.f c a s n = some (r, a', s') ∧ 0 ≤ r ∧ r < n ∧ a ≤ a' ∧ a' ≤ a + 1 := by
 unfold spec_l1Cur_pick.f
 by_cases h : n ≤ 1
 ·rw [if_pos h]; exact ⟨0, a, s, rfl, by omega, by omega, by omega, by omega⟩
 ·obtain ⟨r, s', e, hr0, hr1⟩ := next_any hc a s h0 h1
  rw [if_neg h, e, Option.bind_some, if_neg (by omega), if_neg (by omega)]
  refine ⟨Int.tmod r n, a + 1, s', rfl, ?_, ?_, by omega, by omega⟩
  ·exact Int.tmod_nonneg _ hr0
  ·exact Int.tmod_lt_of_pos _ (by omega)
theorem one_any {c : List Int} (hc : Bys c) (a s n : Int) (h0 : 0 ≤ a) (h1 : a ≤ 4000000000000000000) (hn : 1 ≤ n) (hn2 : n ≤ 200) :
  ∃ r a' s', spec_l1Cur_one.f c a s n = some (r, a', s') ∧ a ≤ a' ∧ a' ≤ a + 1 := by
 obtain ⟨r, a', s', e, _, _, h2, h3⟩ := pick_any hc a s n h0 h1 hn hn2
 unfold spec_l1Cur_one.f
 rw [e, Option.bind_some]
 exact ⟨_, _, _, rfl, h2, h3⟩
theorem size_push1 (t : ByteArray) (b : UInt8) : (t ++ (⟨#[b]⟩ : ByteArray)).size = t.size + 1 := by rw [ByteArray.size_append]; rfl
theorem sure_l {c : List Int} (hc : Bys c) (n : Int) (hn0 : 0 ≤ n) (hn : n ≤ 6) (d : Nat) : ∀ (t : ByteArray) (o lf i a s : Int), 0 ≤ i → i ≤ 2 * n → 2 * n - i ≤ d → (t.size : Int) = i → -i ≤ o → o ≤ i →
  0 ≤ lf → lf ≤ n → 0 ≤ a → a + (2 * n - i) ≤ 4000000000000000000 →
  ∃ p a' s', (∃ K, ∀ k, K ≤ k → spec_l1Cur_sure.l0 k n t o lf i c a s = some ((p, a', s'))) ∧ p.length ≤ 12 ∧ a ≤ a' ∧ a' ≤ a + (2 * n - i) := by
 have fin : ∀ (t : ByteArray) (o lf i a s : Int), i = 2 * n → (t.size : Int) = i → ∃ p a' s', (∃ K, ∀ k, K ≤ k → spec_l1Cur_sure.l0 k n t o lf i c a s = some ((p, a', s'))) ∧ p.length ≤ 12 ∧ a ≤ a' ∧ a' ≤ a + (2 * n - i) := by
  intro t o lf i a s hi ht
  obtain ⟨K, h⟩ := ahParse_any t (by omega)
  refine ⟨_, a, s, ev_rs K fun m hm => ?_, parsed_length t, by omega, by omega⟩
  rw [← parsed] at h
  simp (disch := omega) only [spec_l1Cur_sure.l0, if_neg, w64, h m hm, Option.bind_some]
 induction d with
 | zero => intro t o lf i a s hi0 hi hd ht ho1 ho2 hl0 hl1 ha hb; exact fin t o lf i a s (by omega) ht
 | succ d ih =>
  intro t o lf i a s hi0 hi hd ht ho1 ho2 hl0 hl1 ha hb
  by_cases hlt : i < 2 * n
  ·by_cases hp : lf > 0
   ·by_cases hz : o = 0
    ·obtain ⟨p, a', s', ⟨K, h⟩, q1, q2, q3⟩ := ih (t ++ (⟨#[40]⟩ : ByteArray)) (o + 1) (lf - 1) (i + 1) a s (by omega) (by omega) (by omega) (by rw [size_push1]; omega) (by omega) (by omega) (by omega) (by omega) ha (by omega)
     refine ⟨p, a', s', ev_rs K fun m hm => ?_, q1, q2, by omega⟩
     simp (disch := omega) only [spec_l1Cur_sure.l0, if_pos, w64]
     exact h m hm
    ·obtain ⟨b, a1, s1, e, q4, q5⟩ := one_any hc a s 2 ha (by omega) (by omega) (by omega)
     cases b with
     | true =>
      obtain ⟨p, a', s', ⟨K, h⟩, q1, q2, q3⟩ := ih (t ++ (⟨#[40]⟩ : ByteArray)) (o + 1) (lf - 1) (i + 1) a1 s1 (by omega) (by omega) (by omega) (by rw [size_push1]; omega) (by omega) (by omega) (by omega) (by omega) (by omega) (by omega)
      refine ⟨p, a', s', ev_rs K fun m hm => ?_, q1, by omega, by omega⟩
      simp (disch := omega) only [spec_l1Cur_sure.l0, if_pos, if_neg, w64, e, Option.bind_some]
      exact h m hm
     | false =>
      obtain ⟨p, a', s', ⟨K, h⟩, q1, q2, q3⟩ := ih (t ++ (⟨#[41]⟩ : ByteArray)) (o - 1) lf (i + 1) a1 s1 (by omega) (by omega) (by omega) (by rw [size_push1]; omega) (by omega) (by omega) (by omega) (by omega) (by omega) (by omega)
      refine ⟨p, a', s', ev_rs K fun m hm => ?_, q1, by omega, by omega⟩
      simp (disch := omega) only [spec_l1Cur_sure.l0, if_pos, if_neg, w64, e, Option.bind_some, Bool.false_eq_true, if_false]
      exact h m hm
   ·obtain ⟨p, a', s', ⟨K, h⟩, q1, q2, q3⟩ := ih (t ++ (⟨#[41]⟩ : ByteArray)) (o - 1) lf (i + 1) a s (by omega) (by omega) (by omega) (by rw [size_push1]; omega) (by omega) (by omega) (by omega) (by omega) ha (by omega)
    refine ⟨p, a', s', ev_rs K fun m hm => ?_, q1, q2, by omega⟩
    simp (disch := omega) only [spec_l1Cur_sure.l0, if_pos, if_neg, w64]
    exact h m hm
  ·exact fin t o lf i a s (by omega) ht
theorem sure_any {c : List Int} (hc : Bys c) (a s n : Int) (h0 : 0 ≤ a) (h1 : a ≤ 3000000000000000000) (hn0 : 0 ≤ n) (hn : n ≤ 6) :
  ∃ p a' s', (∃ K, ∀ k, K ≤ k → spec_l1Cur_sure.f k c a s n = some ((p, a', s'))) ∧ p.length ≤ 12 ∧ a ≤ a' ∧ a' ≤ a + 12 := by
 obtain ⟨p, a', s', h, q1, q2, q3⟩ := sure_l hc n hn0 hn (2 * n).toNat (⟨#[]⟩ : ByteArray) 0 n 0 a s (by omega) (by omega) (by omega) rfl (by omega) (by omega) hn0 (by omega) h0 (by omega)
 exact ⟨p, a', s', h, q1, q2, by omega⟩
theorem flat_draw : ((List.range 8).all fun n => match spec_ahFlat.f 60 (n : Nat) with | some l => decide (l.length ≤ 14) | none => false) = true := by decide +kernel
theorem rainbow_draw : ((List.range 8).all fun n => match spec_ahRainbow.f 60 (n : Nat) with | some l => decide (l.length ≤ 14) | none => false) = true := by decide +kernel
theorem flat_d (n : Int) (h0 : 0 ≤ n) (h : n < 8) : ∃ l, (∃ K, ∀ k, K ≤ k → spec_ahFlat.f k n = some (l)) ∧ l.length ≤ 14 := by
 have q := List.all_eq_true.1 flat_draw n.toNat (List.mem_range.2 (by omega))
 rw [show ((n.toNat : Nat) : Int) = n by omega] at q
 cases e : spec_ahFlat.f 60 n with
 | none => rw [e] at q; cases q
 | some l => rw [e] at q; exact ⟨l, ⟨60, fun k hk => at_rounds (fun k => spec_ahFlat.mono n k) hk e⟩, of_decide_eq_true q⟩
theorem rainbow_d (n : Int) (h0 : 0 ≤ n) (h : n < 8) : ∃ l, (∃ K, ∀ k, K ≤ k → spec_ahRainbow.f k n = some (l)) ∧ l.length ≤ 14 := by
 have q := List.all_eq_true.1 rainbow_draw n.toNat (List.mem_range.2 (by omega))
 rw [show ((n.toNat : Nat) : Int) = n by omega] at q
 cases e : spec_ahRainbow.f 60 n with
 | none => rw [e] at q; cases q
 | some l => rw [e] at q; exact ⟨l, ⟨60, fun k hk => at_rounds (fun k => spec_ahRainbow.mono n k) hk e⟩, of_decide_eq_true q⟩
theorem system_any {c : List Int} (hc : Bys c) (a s n : Int) (h0 : 0 ≤ a) (h1 : a ≤ 2000000000000000000) (hn0 : 0 ≤ n) (hn : n ≤ 6) :
  ∃ p a' s', (∃ K, ∀ k, K ≤ k → spec_l1Cur_system.f k c a s n = some ((p, a', s'))) ∧ p.length ≤ 14 ∧ a ≤ a' ∧ a' ≤ a + 20 := by
 obtain ⟨r1, a1, s1, e1, q1, q2, q3, q4⟩ := pick_any hc a s (n + 1) h0 (by omega) (by omega) (by omega)
 obtain ⟨p, a2, s2, ⟨K2, e2⟩, q5, q6, q7⟩ := sure_any hc a1 s1 r1 (by omega) (by omega) q1 (by omega)
 obtain ⟨r3, a3, s3, e3, q8, q9, q10, q11⟩ := pick_any hc a2 s2 16 (by omega) (by omega) (by omega) (by omega)
 have w1 : wrap64 (n + 1) = n + 1 := w64 (by omega) (by omega)
 by_cases c0 : r3 = 0
 ·by_cases hp : (p.length : Int) > 0
  ·obtain ⟨r4, a4, s4, e4, q12, q13, q14, q15⟩ := pick_any hc a3 s3 (p.length : Int) (by omega) (by omega) (by omega) (by omega)
   obtain ⟨r5, a5, s5, e5, q16, q17, q18, q19⟩ := pick_any hc a4 s4 ((p.length : Int) + 2) (by omega) (by omega) (by omega) (by omega)
   refine ⟨p.set r4.toNat (r5 - 1), a5, s5, ⟨K2, fun k hk => ?_⟩, by simp; omega, by omega, by omega⟩
   unfold spec_l1Cur_system.f
   rw [w1]
   refine bindE e1 ?_
   dsimp only
   refine bindE (e2 k (by omega)) ?_
   dsimp only
   refine bindE e3 ?_
   dsimp only
   rw [if_pos c0, if_pos hp]
   refine bindE e4 ?_
   dsimp only
   rw [w64 (x := (p.length : Int) + 2) (by omega) (by omega)]
   refine bindE e5 ?_
   dsimp only
   rw [if_pos q12, if_pos q13, w64 (by omega) (by omega)]
  ·refine ⟨p, a3, s3, ⟨K2, fun k hk => ?_⟩, by omega, by omega, by omega⟩
   unfold spec_l1Cur_system.f
   rw [w1]
   refine bindE e1 ?_
   dsimp only
   refine bindE (e2 k (by omega)) ?_
   dsimp only
   refine bindE e3 ?_
   dsimp only
   rw [if_pos c0, if_neg hp]
 ·by_cases c1 : r3 = 1
  ·refine ⟨p ++ [(p.length : Int) + 1], a3, s3, ⟨K2, fun k hk => ?_⟩, by simp; omega, by omega, by omega⟩
   unfold spec_l1Cur_system.f
   rw [w1]
   refine bindE e1 ?_
   dsimp only
   refine bindE (e2 k (by omega)) ?_
   dsimp only
   refine bindE e3 ?_
   dsimp only
   rw [if_neg c0, if_pos c1, if_pos (by omega), w64 (by omega) (by omega)]
  ·by_cases c2 : r3 = 2
   ·obtain ⟨r4, a4, s4, e4, q12, q13, q14, q15⟩ := pick_any hc a3 s3 2 (by omega) (by omega) (by omega) (by omega)
    obtain ⟨l, ⟨K3, e5⟩, q16⟩ := flat_d (6 + r4) (by omega) (by omega)
    refine ⟨l, a4, s4, ⟨K2 + K3, fun k hk => ?_⟩, q16, by omega, by omega⟩
    unfold spec_l1Cur_system.f
    rw [w1]
    refine bindE e1 ?_
    dsimp only
    refine bindE (e2 k (by omega)) ?_
    dsimp only
    refine bindE e3 ?_
    dsimp only
    rw [if_neg c0, if_neg c1, if_pos c2]
    refine bindE e4 ?_
    dsimp only
    rw [w64 (x := 6 + r4) (by omega) (by omega)]
    exact bindE (e5 k (by omega)) rfl
   ·by_cases c3 : r3 = 3
    ·obtain ⟨r4, a4, s4, e4, q12, q13, q14, q15⟩ := pick_any hc a3 s3 7 (by omega) (by omega) (by omega) (by omega)
     obtain ⟨l, ⟨K3, e5⟩, q16⟩ := rainbow_d r4 (by omega) (by omega)
     refine ⟨l, a4, s4, ⟨K2 + K3, fun k hk => ?_⟩, q16, by omega, by omega⟩
     unfold spec_l1Cur_system.f
     rw [w1]
     refine bindE e1 ?_
     dsimp only
     refine bindE (e2 k (by omega)) ?_
     dsimp only
     refine bindE e3 ?_
     dsimp only
     rw [if_neg c0, if_neg c1, if_neg c2, if_pos c3]
     refine bindE e4 ?_
     dsimp only
     exact bindE (e5 k (by omega)) rfl
    ·refine ⟨p, a3, s3, ⟨K2, fun k hk => ?_⟩, by omega, by omega, by omega⟩
     unfold spec_l1Cur_system.f
     rw [w1]
     refine bindE e1 ?_
     dsimp only
     refine bindE (e2 k (by omega)) ?_
     dsimp only
     refine bindE e3 ?_
     dsimp only
     rw [if_neg c0, if_neg c1, if_neg c2, if_neg c3]
theorem among_any {c : List Int} (hc : Bys c) (a s : Int) (l : List Int) (h0 : 0 ≤ a) (h1 : a ≤ 4000000000000000000) (hn : 1 ≤ l.length) (hn2 : l.length ≤ 200) :
  ∃ r a' s', spec_l1Cur_among.f c a s l = some (r, a', s') ∧ r ∈ l ∧ a ≤ a' ∧ a' ≤ a + 1 := by
 obtain ⟨r, a', s', e, q1, q2, q3, q4⟩ := pick_any hc a s (l.length : Int) h0 h1 (by omega) (by omega)
 unfold spec_l1Cur_among.f
 rw [e, Option.bind_some, if_pos q1, if_pos q2]
 exact ⟨_, _, _, rfl, rd_mem l r q1 q2, q3, q4⟩
theorem pair_d {c : List Int} (hc : Bys c) (a s n : Int) (h0 : 0 ≤ a) (h1 : a ≤ 1000) (hn0 : 0 ≤ n) (hn : n ≤ 6) :
  ∃ p q a' s', (∃ K, ∀ k, K ≤ k → spec_l1Cur_pair.f k c a s n = some ((p, q, a', s'))) ∧ p.length ≤ 14 ∧ q.length ≤ 14 ∧ a ≤ a' ∧ a' ≤ a + 100 := by
 obtain ⟨r1, a1, s1, e1, q1, q2, q3, q4⟩ := pick_any hc a s (n + 1) h0 (by omega) (by omega) (by omega)
 obtain ⟨p, a2, s2, ⟨K2, e2⟩, q5, q6, q7⟩ := sure_any hc a1 s1 r1 (by omega) (by omega) q1 (by omega)
 obtain ⟨q, a3, s3, ⟨K3, e3⟩, q8, q9, q10⟩ := sure_any hc a2 s2 r1 (by omega) (by omega) q1 (by omega)
 obtain ⟨r4, a4, s4, e4, q11, q12, q13, q14⟩ := pick_any hc a3 s3 16 (by omega) (by omega) (by omega) (by omega)
 have w1 : wrap64 (n + 1) = n + 1 := w64 (by omega) (by omega)
 have go : ∀ (k : Nat) (R : Option (List Int × List Int × Int × Int)), K2 + K3 ≤ k → (if r4 = 0 then ((spec_l1Cur_system.f k c a4 s4 n).bind fun b => (some (b.1, q, b.2.1, b.2.2))) else (if r4 = 1 then ((spec_l1Cur_system.f k c a4 s4 n).bind fun b => (some (p, b.1, b.2.1, b.2.2))) else (if r4 = 2 then ((spec_ahRainbow.f k r1).bind fun t => ((spec_ahFlat.f k r1).bind fun u => (some (t, u, a4, s4)))) else (if r4 = 3 then ((spec_l1Own.f p).bind fun t => (some (p, t, a4, s4))) else (some (p, q, a4, s4)))))) = R → spec_l1Cur_pair.f k c a s n = R := by
  intro k R hk h
  unfold spec_l1Cur_pair.f
  rw [w1]
  refine bindE e1 ?_
  dsimp only
  refine bindE (e2 k (by omega)) ?_
  dsimp only
  refine bindE (e3 k (by omega)) ?_
  dsimp only
  refine bindE e4 ?_
  exact h
 by_cases c0 : r4 = 0
 ·obtain ⟨p', a5, s5, ⟨K5, e5⟩, q15, q16, q17⟩ := system_any hc a4 s4 n (by omega) (by omega) hn0 hn
  refine ⟨p', q, a5, s5, ⟨K2 + K3 + K5, fun k hk => go k _ (by omega) ?_⟩, q15, by omega, by omega, by omega⟩
  rw [if_pos c0]
  exact bindE (e5 k (by omega)) rfl
 ·by_cases c1 : r4 = 1
  ·obtain ⟨p', a5, s5, ⟨K5, e5⟩, q15, q16, q17⟩ := system_any hc a4 s4 n (by omega) (by omega) hn0 hn
   refine ⟨p, p', a5, s5, ⟨K2 + K3 + K5, fun k hk => go k _ (by omega) ?_⟩, by omega, q15, by omega, by omega⟩
   rw [if_neg c0, if_pos c1]
   exact bindE (e5 k (by omega)) rfl
  ·by_cases c2 : r4 = 2
   ·obtain ⟨t, ⟨K5, e5⟩, q15⟩ := rainbow_d r1 (by omega) (by omega)
    obtain ⟨u, ⟨K6, e6⟩, q16⟩ := flat_d r1 (by omega) (by omega)
    refine ⟨t, u, a4, s4, ⟨K2 + K3 + K5 + K6, fun k hk => go k _ (by omega) ?_⟩, q15, q16, by omega, by omega⟩
    rw [if_neg c0, if_neg c1, if_pos c2]
    refine bindE (e5 k (by omega)) ?_
    exact bindE (e6 k (by omega)) rfl
   ·by_cases c3 : r4 = 3
    ·refine ⟨p, p, a4, s4, ⟨K2 + K3, fun k hk => go k _ (by omega) ?_⟩, by omega, by omega, by omega, by omega⟩
     rw [if_neg c0, if_neg c1, if_neg c2, if_pos c3]
     have e : spec_l1Own.f p = some p := by
      simp only [spec_l1Own.f, Option.bind_some, List.nil_append]
      rw [if_pos (by simp; omega)]
     exact bindE e rfl
    ·refine ⟨p, q, a4, s4, ⟨K2 + K3, fun k hk => go k _ (by omega) ?_⟩, by omega, by omega, by omega, by omega⟩
     rw [if_neg c0, if_neg c1, if_neg c2, if_neg c3]
theorem ahText_l (l : List Int) (hl : l.length ≤ 1048576) (d : Nat) : ∀ (t : ByteArray) (i : Int), 0 ≤ i → (l.length : Int) = i + d → t.size + d ≤ 1048576 → ∃ r, (∃ K, ∀ k, K ≤ k → spec_ahText.l0 k t l (l.length : Int) i = some (r)) ∧ r.size = t.size + d := by
 induction d with
 | zero =>
  intro t i h0 hd ht
  refine ⟨t, ev_rs 0 fun m _ => ?_, rfl⟩
  rw [spec_ahText.l0, if_neg (by omega)]
 | succ d ih =>
  intro t i h0 hd ht
  by_cases c : rd l i > i
  ·obtain ⟨r, ⟨K, h⟩, hr⟩ := ih (t ++ (⟨#[40]⟩ : ByteArray)) (i + 1) (by omega) (by omega) (by rw [size_push1]; omega)
   refine ⟨r, ev_rs K fun m hm => ?_, by rw [hr, size_push1]; omega⟩
   rw [spec_ahText.l0, if_pos (by omega), if_pos h0, if_pos (by omega), if_pos c, if_pos (by omega), w64 (by omega) (by omega)]
   exact h m hm
  ·obtain ⟨r, ⟨K, h⟩, hr⟩ := ih (t ++ (⟨#[41]⟩ : ByteArray)) (i + 1) (by omega) (by omega) (by rw [size_push1]; omega)
   refine ⟨r, ev_rs K fun m hm => ?_, by rw [hr, size_push1]; omega⟩
   rw [spec_ahText.l0, if_pos (by omega), if_pos h0, if_pos (by omega), if_neg c, if_pos (by omega), w64 (by omega) (by omega)]
   exact h m hm
theorem ahText_tot (l : List Int) (hl : l.length ≤ 1048576) : ∃ r, (∃ K, ∀ k, K ≤ k → spec_ahText.f k l = some (r)) ∧ r.size = l.length := by
 obtain ⟨r, h, hr⟩ := ahText_l l hl l.length (⟨#[]⟩ : ByteArray) 0 (by omega) (by omega) (by show 0 + l.length ≤ 1048576; omega)
 exact ⟨r, h, by rw [hr]; show 0 + l.length = l.length; omega⟩
theorem ext_size (t : ByteArray) (a b : Nat) : (t.extract a b).size = min b t.size - a := ByteArray.size_extract
theorem wth_size3 : ((⟨#[40, 41, 124]⟩ : ByteArray).size : Int) = 3 := rfl
theorem spoilt_l {c : List Int} (hc : Bys c) (d : Nat) : ∀ (t : ByteArray) (a s : Int), t.size + d ≤ 100 → 0 ≤ a → a + 3 * d ≤ 2000000000000000000 → d ≤ 10 →
  ∃ u a' s', (∃ K, ∀ k, K ≤ k → spec_l1Cur_spoilt.l0 k t (⟨#[40, 41, 124]⟩ : ByteArray) (d : Int) c a s = some ((u, a', s'))) ∧ u.size ≤ t.size + d ∧ a ≤ a' ∧ a' ≤ a + 3 * d := by
 induction d with
 | zero =>
  intro t a s ht h0 h1 hd
  refine ⟨t, a, s, ⟨2, fun k hk => ?_⟩, by omega, by omega, by omega⟩
  obtain ⟨m, rfl⟩ : ∃ m, k = m + 2 := ⟨k - 2, by omega⟩
  rw [spec_l1Cur_spoilt.l0, if_neg (by omega), spec_l1Cur_spoilt.j1, if_neg (by decide)]
 | succ d ih =>
  intro t a s ht h0 h1 hd
  by_cases hz : (t.size : Int) > 0
  ·obtain ⟨r1, a1, s1, e1, q1, q2, q3, q4⟩ := pick_any hc a s (t.size : Int) h0 (by omega) (by omega) (by omega)
   obtain ⟨r2, a2, s2, e2, q5, q6, q7, q8⟩ := pick_any hc a1 s1 3 (by omega) (by omega) (by omega) (by omega)
   obtain ⟨r3, a3, s3, e3, q9, q10, q11, q12⟩ := pick_any hc a2 s2 3 (by omega) (by omega) (by omega) (by omega)
   have z1 := ext_size t 0 r1.toNat
   have z2 := ext_size t r1.toNat t.size
   have z3 := ext_size t (r1 + 1).toNat t.size
   have z4 : (strOfNums [bt (⟨#[40, 41, 124]⟩ : ByteArray) r2]).size = 1 := by rw [son_size]; rfl
   have w1 : wrap64 (r1 + 1) = r1 + 1 := w64 (by omega) (by omega)
   have w2 : wrap64 (((d + 1 : Nat) : Int) - 1) = (d : Int) := by rw [w64 (by omega) (by omega)]; omega
   have go : ∀ (m : Nat) (R : Option (ByteArray × Int × Int)), (if r3 = 0 then (spec_l1Cur_spoilt.l0 m (((t.extract 0 r1.toNat) ++ (strOfNums [bt (⟨#[40, 41, 124]⟩ : ByteArray) r2])) ++ (t.extract r1.toNat t.size)) (⟨#[40, 41, 124]⟩ : ByteArray) (d : Int) c a3 s3) else if r3 = 1 then (spec_l1Cur_spoilt.l0 m (((t.extract 0 r1.toNat) ++ (strOfNums [bt (⟨#[40, 41, 124]⟩ : ByteArray) r2])) ++ (t.extract (r1 + 1).toNat t.size)) (⟨#[40, 41, 124]⟩ : ByteArray) (d : Int) c a3 s3) else (spec_l1Cur_spoilt.l0 m ((t.extract 0 r1.toNat) ++ (t.extract (r1 + 1).toNat t.size)) (⟨#[40, 41, 124]⟩ : ByteArray) (d : Int) c a3 s3)) = R →
     spec_l1Cur_spoilt.l0 (m + 2) t (⟨#[40, 41, 124]⟩ : ByteArray) ((d + 1 : Nat) : Int) c a s = R := by
    intro m R h
    rw [spec_l1Cur_spoilt.l0, if_pos (by omega), decide_eq_true hz, spec_l1Cur_spoilt.j1, if_pos rfl]
    refine bindE e1 ?_
    dsimp only
    rw [wth_size3]
    refine bindE e2 ?_
    dsimp only
    rw [if_pos q5, if_pos q6, Option.bind_some]
    refine bindE e3 ?_
    dsimp only
    rw [w1, w2]
    by_cases c0 : r3 = 0
    ·rw [if_pos c0] at h ⊢
     rw [if_pos q1, if_pos (by omega), if_pos (by omega), if_pos (by rw [ByteArray.size_append]; omega)]
     exact h
    ·rw [if_neg c0] at h ⊢
     by_cases c1 : r3 = 1
     ·rw [if_pos c1] at h ⊢
      rw [if_pos q1, if_pos (by omega), if_pos (by omega), if_pos (by omega), if_pos (by omega), if_pos (by rw [ByteArray.size_append]; omega)]
      exact h
     ·rw [if_neg c1] at h ⊢
      rw [if_pos q1, if_pos (by omega), if_pos (by omega), if_pos (by omega), if_pos (by omega)]
      exact h
   by_cases c0 : r3 = 0
   ·obtain ⟨u, a', s', ⟨K, h⟩, v1, v2, v3⟩ := ih (((t.extract 0 r1.toNat) ++ (strOfNums [bt (⟨#[40, 41, 124]⟩ : ByteArray) r2])) ++ (t.extract r1.toNat t.size)) a3 s3 (by rw [ByteArray.size_append, ByteArray.size_append]; omega) (by omega) (by omega) (by omega)
    rw [ByteArray.size_append, ByteArray.size_append] at v1
    refine ⟨u, a', s', ⟨K + 2, fun k hk => ?_⟩, by omega, by omega, by omega⟩
    obtain ⟨m, rfl⟩ : ∃ m, k = m + 2 := ⟨k - 2, by omega⟩
    refine go m _ ?_
    rw [if_pos c0]
    exact h m (by omega)
   ·by_cases c1 : r3 = 1
    ·obtain ⟨u, a', s', ⟨K, h⟩, v1, v2, v3⟩ := ih (((t.extract 0 r1.toNat) ++ (strOfNums [bt (⟨#[40, 41, 124]⟩ : ByteArray) r2])) ++ (t.extract (r1 + 1).toNat t.size)) a3 s3 (by rw [ByteArray.size_append, ByteArray.size_append]; omega) (by omega) (by omega) (by omega)
     rw [ByteArray.size_append, ByteArray.size_append] at v1
     refine ⟨u, a', s', ⟨K + 2, fun k hk => ?_⟩, by omega, by omega, by omega⟩
     obtain ⟨m, rfl⟩ : ∃ m, k = m + 2 := ⟨k - 2, by omega⟩
     refine go m _ ?_
     rw [if_neg c0, if_pos c1]
     exact h m (by omega)
    ·obtain ⟨u, a', s', ⟨K, h⟩, v1, v2, v3⟩ := ih ((t.extract 0 r1.toNat) ++ (t.extract (r1 + 1).toNat t.size)) a3 s3 (by rw [ByteArray.size_append]; omega) (by omega) (by omega) (by omega)
     rw [ByteArray.size_append] at v1
     refine ⟨u, a', s', ⟨K + 2, fun k hk => ?_⟩, by omega, by omega, by omega⟩
     obtain ⟨m, rfl⟩ : ∃ m, k = m + 2 := ⟨k - 2, by omega⟩
     refine go m _ ?_
     rw [if_neg c0, if_neg c1]
     exact h m (by omega)
  ·refine ⟨t, a, s, ⟨2, fun k hk => ?_⟩, by omega, by omega, by omega⟩
   obtain ⟨m, rfl⟩ : ∃ m, k = m + 2 := ⟨k - 2, by omega⟩
   rw [spec_l1Cur_spoilt.l0, if_pos (by omega), decide_eq_false hz, spec_l1Cur_spoilt.j1, if_neg (by decide)]
theorem drawTurnM_any {c : List Int} (hc : Bys c) : ∃ p q t, (∃ K, ∀ k, K ≤ k → spec_DrawTurnMeander.f k c = some ((p, q, t))) ∧ p.length ≤ 14 ∧ q.length ≤ 14 := by
 obtain ⟨r1, a1, s1, e1, q1, q2, q3, q4⟩ := pick_any hc 0 0 25 (by omega) (by omega) (by omega) (by omega)
 obtain ⟨b, a2, s2, e2, q5, q6⟩ := one_any hc a1 s1 8 (by omega) (by omega) (by omega) (by omega)
 cases b with
 | true =>
  obtain ⟨r3, a3, s3, e3, _, q7, q8⟩ := among_any hc a2 s2 ([(-101), (-100), 100, 101, 4611686018427387904] : List Int) (by omega) (by omega) (by simp) (by simp)
  obtain ⟨p, q, a4, s4, ⟨K, e4⟩, q9, q10, _⟩ := pair_d hc a3 s3 6 (by omega) (by omega) (by omega) (by omega)
  refine ⟨p, q, r3, ⟨K, fun k hk => ?_⟩, q9, q10⟩
  unfold spec_DrawTurnMeander.f spec_DrawTurnMeander_m.f
  refine bindE (a := (p, q, r3, a4, s4)) (bindE e1 ?_) rfl
  dsimp only
  refine bindE e2 ?_
  dsimp only
  rw [if_pos rfl]
  refine bindE e3 ?_
  dsimp only
  exact bindE (e4 k hk) rfl
 | false =>
  obtain ⟨p, q, a4, s4, ⟨K, e4⟩, q9, q10, _⟩ := pair_d hc a2 s2 6 (by omega) (by omega) (by omega) (by omega)
  refine ⟨p, q, wrap64 (r1 - 12), ⟨K, fun k hk => ?_⟩, q9, q10⟩
  unfold spec_DrawTurnMeander.f spec_DrawTurnMeander_m.f
  refine bindE (a := (p, q, wrap64 (r1 - 12), a4, s4)) (bindE e1 ?_) rfl
  dsimp only
  refine bindE e2 ?_
  dsimp only
  rw [if_neg (by decide)]
  exact bindE (e4 k hk) rfl
theorem drawJoinM_any {c : List Int} (hc : Bys c) : ∃ p q r t, (∃ K, ∀ k, K ≤ k → spec_DrawJoinMeanders.f k c = some ((p, q, r, t))) ∧ p.length ≤ 14 ∧ q.length ≤ 14 ∧ r.length ≤ 14 ∧ t.length ≤ 14 := by
 obtain ⟨p, q, a1, s1, ⟨K1, e1⟩, q1, q2, q3, q4⟩ := pair_d hc 0 0 4 (by omega) (by omega) (by omega) (by omega)
 obtain ⟨r, t, a2, s2, ⟨K2, e2⟩, q5, q6, _⟩ := pair_d hc a1 s1 4 (by omega) (by omega) (by omega) (by omega)
 refine ⟨p, q, r, t, ⟨K1 + K2, fun k hk => ?_⟩, q1, q2, q5, q6⟩
 unfold spec_DrawJoinMeanders.f spec_DrawJoinMeanders_m.f
 refine bindE (a := (p, q, r, t, a2, s2)) (bindE (e1 k (by omega)) ?_) rfl
 dsimp only
 exact bindE (e2 k (by omega)) rfl
theorem drawMeText_any {c : List Int} (hc : Bys c) : ∃ p q, (∃ K, ∀ k, K ≤ k → spec_DrawMeanderText.f k c = some ((p, q))) ∧ p.length ≤ 14 ∧ q.length ≤ 14 := by
 obtain ⟨p, q, a1, s1, ⟨K1, e1⟩, q1, q2, _⟩ := pair_d hc 0 0 6 (by omega) (by omega) (by omega) (by omega)
 refine ⟨p, q, ⟨K1, fun k hk => ?_⟩, q1, q2⟩
 unfold spec_DrawMeanderText.f spec_DrawIsPair.f spec_DrawIsPair_m.f
 exact bindE (bindE (a := (p, q, a1, s1)) (bindE (e1 k hk) rfl) rfl) rfl
theorem drawParseM_any {c : List Int} (hc : Bys c) : ∃ t, (∃ K, ∀ k, K ≤ k → spec_DrawParseMeander.f k c = some (t)) ∧ t.size ≤ 60 := by
 obtain ⟨r1, a1, s1, e1, q1, q2, q3, q4⟩ := pick_any hc 0 0 5 (by omega) (by omega) (by omega) (by omega)
 obtain ⟨p, a2, s2, ⟨K2, e2⟩, q5, q6, q7⟩ := sure_any hc a1 s1 r1 (by omega) (by omega) q1 (by omega)
 obtain ⟨q, a3, s3, ⟨K3, e3⟩, q8, q9, q10⟩ := sure_any hc a2 s2 r1 (by omega) (by omega) q1 (by omega)
 obtain ⟨t, ⟨K4, e4⟩, q11⟩ := ahText_tot p (by omega)
 obtain ⟨u, ⟨K5, e5⟩, q12⟩ := ahText_tot q (by omega)
 have z1 : (t ++ (⟨#[124]⟩ : ByteArray)).size = t.size + 1 := size_push1 t 124
 have z2 : ((t ++ (⟨#[124]⟩ : ByteArray)) ++ u).size = t.size + 1 + u.size := by rw [ByteArray.size_append, z1]
 have em : ∀ k, K4 + K5 ≤ k → spec_meText.f k p q = some ((t ++ (⟨#[124]⟩ : ByteArray)) ++ u) := fun k hk => by
  unfold spec_meText.f
  rw [e4 k (by omega), Option.bind_some, if_pos (by omega), e5 k (by omega), Option.bind_some, if_pos (by omega)]
 obtain ⟨b, a6, s6, e6, q13, q14⟩ := one_any hc a3 s3 3 (by omega) (by omega) (by omega) (by omega)
 generalize (t ++ (⟨#[124]⟩ : ByteArray)) ++ u = v at *
 cases b with
 | true =>
  obtain ⟨r5, a7, s7, e7, q15, q16, q17, q18⟩ := pick_any hc a6 s6 2 (by omega) (by omega) (by omega) (by omega)
  obtain ⟨y, a8, s8, ⟨K6, e8⟩, q19, q20, q21⟩ := spoilt_l hc (1 + r5).toNat v a7 s7 (by omega) (by omega) (by omega) (by omega)
  rw [show (((1 + r5).toNat : Nat) : Int) = 1 + r5 by omega] at e8
  refine ⟨y, ⟨K2 + K3 + K4 + K5 + K6, fun k hk => ?_⟩, by omega⟩
  unfold spec_DrawParseMeander.f spec_DrawParseMeander_m.f
  refine bindE (a := (y, a8, s8)) (bindE e1 ?_) rfl
  dsimp only
  refine bindE (e2 k (by omega)) ?_
  dsimp only
  refine bindE (e3 k (by omega)) ?_
  dsimp only
  refine bindE (em k (by omega)) ?_
  refine bindE e6 ?_
  dsimp only
  rw [if_pos rfl]
  refine bindE (a := (y, a8, s8)) ?_ rfl
  unfold spec_l1Cur_spoilt.f
  refine bindE e7 ?_
  dsimp only
  rw [w64 (by omega) (by omega)]
  exact e8 k (by omega)
 | false =>
  refine ⟨v, ⟨K2 + K3 + K4 + K5, fun k hk => ?_⟩, by omega⟩
  unfold spec_DrawParseMeander.f spec_DrawParseMeander_m.f
  refine bindE (a := (v, a6, s6)) (bindE e1 ?_) rfl
  dsimp only
  refine bindE (e2 k (by omega)) ?_
  dsimp only
  refine bindE (e3 k (by omega)) ?_
  dsimp only
  refine bindE (em k (by omega)) ?_
  refine bindE e6 ?_
  dsimp only
  rw [if_neg (by decide)]
theorem mvd_keep (φ : Int → Int) (l : List Int) (y : Int) (y0 : 0 ≤ y) (d : Nat) : ∀ (out : List Int) (i : Int), (∀ j : Int, i ≤ j → j < i + d → 0 ≤ φ j ∧ φ j < out.length ∧ φ j ≠ y) → rd (mvd φ l d out i) y = rd out y := by
 induction d with
 | zero => intro out i _; rfl
 | succ d ih =>
  intro out i h
  obtain ⟨a, b, c⟩ := h i (by omega) (by omega)
  unfold mvd
  rw [ih _ (i + 1) (fun j h0 h1 => by have := h j (by omega) (by omega); simpa using this), rd_set out (φ i) y _ a b y0, if_neg (fun e => c e.symm)]
theorem mvd_at (φ : Int → Int) (l : List Int) (d : Nat) : ∀ (out : List Int) (i x : Int), i ≤ x → x < i + d → (∀ j : Int, i ≤ j → j < i + d → 0 ≤ φ j ∧ φ j < out.length) → (∀ j : Int, i ≤ j → j < i + d → φ j = φ x → j = x) → rd (mvd φ l d out i) (φ x) = φ (rd l x) := by
 induction d with
 | zero => intro out i x h0 h1; omega
 | succ d ih =>
  intro out i x h0 h1 h2 h3
  unfold mvd
  by_cases e : i = x
  ·subst e
   have a := h2 i (by omega) (by omega)
   rw [mvd_keep φ l (φ i) a.1 d _ (i + 1) (fun j j0 j1 => by have := h2 j (by omega) (by omega); exact ⟨this.1, by simpa using this.2, fun g => by have := h3 j (by omega) (by omega) g; omega⟩), rd_set out _ _ _ a.1 a.2 a.1, if_pos rfl]
  ·exact ih _ (i + 1) x (by omega) (by omega) (fun j j0 j1 => by have := h2 j (by omega) (by omega); simpa using this) (fun j j0 j1 => h3 j (by omega) (by omega))
theorem cnt_moved {l m l' m' : List Int} (h : Two l m) (h' : Two l' m') (hl : l'.length = l.length) {φ : Int → Int} (hφ : ∀ x : Int, 0 ≤ x → x < l.length → 0 ≤ φ x ∧ φ x < l.length) (e1 : ∀ x : Int, 0 ≤ x → x < l.length → rd l' (φ x) = φ (rd l x)) (e2 : ∀ x : Int, 0 ≤ x → x < l.length → rd m' (φ x) = φ (rd m x))
  (hs : ∀ y : Int, 0 ≤ y → y < l.length → ∃ x : Int, 0 ≤ x ∧ x < l.length ∧ φ x = y) : (coloursOf l' m').2 ≤ (coloursOf l m).2 := by
 have hc := coloursOf_col h'
 refine cnt_ge h (f := fun x => rd (coloursOf l' m').1 (φ x)) (fun x x0 x1 => ?_) (fun k k0 k1 => ?_)
 ·have g := hφ x x0 x1
  have := hc.inv (φ x) g.1 (by rw [hl]; exact g.2)
  rw [e1 x x0 x1, e2 x x0 x1] at this
  exact this
 ·obtain ⟨y, y0, y1, e⟩ := hc.sur k k0 k1
  obtain ⟨x, x0, x1, rfl⟩ := hs y y0 (by rw [← hl]; exact y1)
  exact ⟨x, x0, x1, e⟩
theorem pairB_mk {l m : List Int} (h : sysB l = true) (k : sysB m = true) (e : l.length = m.length) : pairB l m = true := by
 unfold pairB; rw [h, k, e]; simp
theorem pairB_all {l m : List Int} (h : pairB l m = true) : sysB l = true ∧ sysB m = true ∧ l.length = m.length := by
 simp only [pairB, Bool.and_eq_true, decide_eq_true_eq] at h
 exact ⟨h.1.1, h.1.2, h.2⟩
theorem cnt_flip {l m : List Int} (h : pairB l m = true) : pairB m l = true ∧ (coloursOf m l).2 = (coloursOf l m).2 := by
 obtain ⟨a, b, c⟩ := pairB_all h
 have h' := pairB_mk b a c.symm
 have key : ∀ {l m : List Int}, Two l m → Two m l → (coloursOf m l).2 ≤ (coloursOf l m).2 := fun {l m} t t' => by
  have hc := coloursOf_col t'
  have e := t.len
  exact cnt_ge t (f := rd (coloursOf m l).1) (fun x x0 x1 => by have := hc.inv x x0 (by omega); exact ⟨this.2, this.1⟩) (fun k k0 k1 => by obtain ⟨j, j0, j1, e⟩ := hc.sur k k0 k1; exact ⟨j, j0, by omega, e⟩)
 have t := pairB_two h
 have t' := pairB_two h'
 exact ⟨h', by have := key t t'; have := key t' t; omega⟩
theorem isSys_sysB {l : List Int} (hl : l.length ≤ 1048576) (h : impl_IsSystem.f 200 l = some true) : sysB l = true := by
 obtain ⟨K, hK⟩ := IsSystem_any l (by omega)
 have q1 := at_rounds (g := fun k => impl_IsSystem.f k l) (fun k => impl_IsSystem.mono _ k) (show 200 ≤ K + 200 by omega) h
 exact Option.some.inj ((hK (K + 200) (by omega)).symm.trans q1)
def mir_table_P : List Int → Bool := fun p => (impl_IsSystem.f 200 (mirrorL p) == some true) && (mirrorL (mirrorL p) == p)
theorem mir_table_4 : ((List.range 5).all fun n => (Pl.sysList n).all mir_table_P) = true := by decide +kernel
theorem mir_table_5_0 : (((Pl.sysList 5).drop (14 * 0)).take 14).all mir_table_P = true := by decide +kernel
theorem mir_table_5_1 : (((Pl.sysList 5).drop (14 * 1)).take 14).all mir_table_P = true := by decide +kernel
theorem mir_table_5_2 : (((Pl.sysList 5).drop (14 * 2)).take 14).all mir_table_P = true := by decide +kernel
theorem mir_table_6_0 : (((Pl.sysList 6).drop (22 * 0)).take 22).all mir_table_P = true := by decide +kernel
theorem mir_table_6_1 : (((Pl.sysList 6).drop (22 * 1)).take 22).all mir_table_P = true := by decide +kernel
theorem mir_table_6_2 : (((Pl.sysList 6).drop (22 * 2)).take 22).all mir_table_P = true := by decide +kernel
theorem mir_table_6_3 : (((Pl.sysList 6).drop (22 * 3)).take 22).all mir_table_P = true := by decide +kernel
theorem mir_table_6_4 : (((Pl.sysList 6).drop (22 * 4)).take 22).all mir_table_P = true := by decide +kernel
theorem mir_table_6_5 : (((Pl.sysList 6).drop (22 * 5)).take 22).all mir_table_P = true := by decide +kernel
theorem mir_table : ((List.range 7).all fun n => (Pl.sysList n).all mir_table_P) = true := by
 refine tab_of mir_table_4 (fun i hi => ?_) (fun i hi => ?_)
 ·match i, hi with
  | 0, _ => exact mir_table_5_0
  | 1, _ => exact mir_table_5_1
  | 2, _ => exact mir_table_5_2
 ·match i, hi with
  | 0, _ => exact mir_table_6_0
  | 1, _ => exact mir_table_6_1
  | 2, _ => exact mir_table_6_2
  | 3, _ => exact mir_table_6_3
  | 4, _ => exact mir_table_6_4
  | 5, _ => exact mir_table_6_5
theorem mir_any {l : List Int} (hB : sysB l = true) : sysB (mirrorL l) = true ∧ mirrorL (mirrorL l) = l := by
 have t := of_table mir_table hB
 unfold mir_table_P at t
 simp only [Bool.and_eq_true, beq_iff_eq] at t
 have := (sysB_rd0 hB).1
 exact ⟨isSys_sysB (by rw [mirrorL_length]; omega) t.1, t.2⟩
theorem mir_at {l : List Int} (hl : l.length ≤ 12) {x : Int} (x0 : 0 ≤ x) (x1 : x < l.length) : rd (mirrorL l) (mirrorP l.length x) = mirrorP l.length (rd l x) := by
 unfold mirrorL
 have e : ∀ j : Int, 0 ≤ j → j < l.length → mirrorP l.length j = l.length - 1 - j := fun j j0 j1 => by
  unfold mirrorP; rw [w64 (x := (l.length : Int) - 1) (by omega) (by omega), w64 (by omega) (by omega)]
 refine mvd_at _ l l.length (List.replicate l.length 0) 0 x x0 (by omega) (fun j j0 j1 => ?_) (fun j j0 j1 g => ?_)
 ·rw [e j j0 (by omega), List.length_replicate]; omega
 ·rw [e j j0 (by omega), e x x0 x1] at g; omega
theorem cnt_mirror {l m : List Int} (h : pairB l m = true) : pairB (mirrorL l) (mirrorL m) = true ∧ (coloursOf (mirrorL l) (mirrorL m)).2 = (coloursOf l m).2 := by
 obtain ⟨a, b, c⟩ := pairB_all h
 obtain ⟨a1, a2⟩ := mir_any a
 obtain ⟨b1, b2⟩ := mir_any b
 have h' : pairB (mirrorL l) (mirrorL m) = true := pairB_mk a1 b1 (by rw [mirrorL_length, mirrorL_length]; exact c)
 have key : ∀ {l m : List Int}, Two l m → Two (mirrorL l) (mirrorL m) → (coloursOf (mirrorL l) (mirrorL m)).2 ≤ (coloursOf l m).2 := fun {l m} t t' => by
  have hs := t.small
  have e := t.len
  have q : ∀ j : Int, 0 ≤ j → j < l.length → mirrorP l.length j = l.length - 1 - j := fun j j0 j1 => by
   unfold mirrorP; rw [w64 (x := (l.length : Int) - 1) (by omega) (by omega), w64 (by omega) (by omega)]
  refine cnt_moved t t' (mirrorL_length l) (φ := mirrorP l.length) (fun x x0 x1 => by rw [q x x0 x1]; omega) (fun x x0 x1 => mir_at hs x0 x1) (fun x x0 x1 => ?_) (fun y y0 y1 => ⟨l.length - 1 - y, by omega, by omega, by rw [q _ (by omega) (by omega)]; omega⟩)
  rw [e] at x1 ⊢
  exact mir_at (by omega) x0 x1
 have t := pairB_two h
 have t' := pairB_two h'
 have k1 := key t t'
 have k2 := key t' (by rw [a2, b2]; exact t)
 rw [a2, b2] at k2
 exact ⟨h', by omega⟩
theorem emod_inj {n a x y : Int} (x0 : 0 ≤ x) (x1 : x < n) (y0 : 0 ≤ y) (y1 : y < n) (e : (x + a) % n = (y + a) % n) : x = y := by
 have h1 := Int.emod_emod_of_dvd (x + a - (y + a)) (Int.dvd_refl n)
 have d : (x - y) % n = 0 := by
  have := (Int.emod_eq_emod_iff_emod_sub_eq_zero (m := x + a) (k := y + a) (n := n)).1 e
  rwa [show x + a - (y + a) = x - y by omega] at this
 have d' : (y - x) % n = 0 := by
  have := (Int.emod_eq_emod_iff_emod_sub_eq_zero (m := y + a) (k := x + a) (n := n)).1 e.symm
  rwa [show y + a - (x + a) = y - x by omega] at this
 rcases Int.le_total x y with h | h
 ·rw [Int.emod_eq_of_lt (by omega) (by omega)] at d'; omega
 ·rw [Int.emod_eq_of_lt (by omega) (by omega)] at d; omega
theorem turn_at {l : List Int} (hl : l.length ≤ 12) {a : Int} (ha : -100 ≤ a ∧ a ≤ 100) {x : Int} (x0 : 0 ≤ x) (x1 : x < l.length) : rd (turnL l a) (turnP l.length a x) = turnP l.length a (rd l x) := by
 unfold turnL
 refine mvd_at _ l l.length (List.replicate l.length 0) 0 x x0 (by omega) (fun j j0 j1 => ?_) (fun j j0 j1 g => ?_)
 ·rw [List.length_replicate]; exact turnP_ok (by omega) (by omega)
 ·rw [turnP_eq (by omega) (by omega) (by omega) ⟨j0, by omega⟩, turnP_eq (by omega) (by omega) (by omega) ⟨x0, x1⟩] at g
  exact emod_inj j0 (by omega) x0 x1 g
theorem turnL_len (l : List Int) (a : Int) : (turnL l a).length = l.length := by simp [turnL, mvd_length]
theorem cnt_turn {l m : List Int} (h : pairB l m = true) {a : Int} (ha : -100 ≤ a ∧ a ≤ 100) : pairB (turnL l a) (turnL m a) = true ∧ (coloursOf (turnL l a) (turnL m a)).2 = (coloursOf l m).2 := by
 obtain ⟨p, q, c⟩ := pairB_all h
 obtain ⟨a1, a2, _⟩ := turnBack_any p ha
 obtain ⟨b1, b2, _⟩ := turnBack_any q ha
 have h' : pairB (turnL l a) (turnL m a) = true := pairB_mk a1 b1 (by rw [turnL_len, turnL_len]; exact c)
 have key : ∀ {l m : List Int} {a : Int}, -100 ≤ a ∧ a ≤ 100 → Two l m → Two (turnL l a) (turnL m a) → (coloursOf (turnL l a) (turnL m a)).2 ≤ (coloursOf l m).2 := fun {l m a} ha t t' => by
  have hs := t.small
  have e := t.len
  refine cnt_moved t t' (turnL_len l a) (φ := turnP l.length a) (fun x x0 x1 => turnP_ok (by omega) (by omega)) (fun x x0 x1 => turn_at hs ha x0 x1) (fun x x0 x1 => ?_) (fun y y0 y1 => ?_)
  ·rw [e] at x1 ⊢
   exact turn_at (by omega) ha x0 x1
  ·have n0 := Int.emod_nonneg (y - a) (show (l.length : Int) ≠ 0 by omega)
   have n1 := Int.emod_lt_of_pos (y - a) (show (0 : Int) < l.length by omega)
   refine ⟨(y - a) % l.length, n0, n1, ?_⟩
   rw [turnP_eq (by omega) (by omega) (by omega) ⟨n0, n1⟩, Int.emod_add_emod, show y - a + a = y by omega, Int.emod_eq_of_lt y0 y1]
 have t := pairB_two h
 have t' := pairB_two h'
 have k1 := key ha t t'
 have k2 := key (a := -a) (by omega) t' (by rw [a2, b2]; exact t)
 rw [a2, b2] at k2
 exact ⟨h', by omega⟩
def jnAt (a b : List Int) : Bool := (impl_IsSystem.f 200 (joinL a b) == some true) && ((List.range a.length).all fun x => rd (joinL a b) (x : Nat) == rd a (x : Nat)) && ((List.range b.length).all fun x => rd (joinL a b) ((a.length + x : Nat) : Int) == (a.length : Nat) + rd b (x : Nat))
theorem jnAt_table : ((List.range 7).all fun n => (Pl.sysList n).all fun a => (List.range (7 - n)).all fun m => (Pl.sysList m).all fun b => jnAt a b) = true := by decide +kernel
theorem jnAt_any {a b : List Int} (ha : sysB a = true) (hb : sysB b = true) (h : a.length + b.length ≤ 12) : sysB (joinL a b) = true ∧ (∀ x : Int, 0 ≤ x → x < a.length → rd (joinL a b) x = rd a x) ∧ (∀ x : Int, 0 ≤ x → x < b.length → rd (joinL a b) (a.length + x) = a.length + rd b x) := by
 obtain ⟨a7, am⟩ := sysB_mem ha
 obtain ⟨b7, bm⟩ := sysB_mem hb
 have ea := (tf_iff.1 ha).2.even (by omega)
 have eb := (tf_iff.1 hb).2.even (by omega)
 have t := List.all_eq_true.1 (List.all_eq_true.1 (List.all_eq_true.1 (List.all_eq_true.1 jnAt_table _ (List.mem_range.2 a7)) a am) (b.length / 2) (List.mem_range.2 (by omega))) b bm
 unfold jnAt at t
 simp only [Bool.and_eq_true, beq_iff_eq] at t
 obtain ⟨⟨t1, t2⟩, t3⟩ := t
 refine ⟨isSys_sysB (by rw [joinL_length]; omega) t1, fun x x0 x1 => ?_, fun x x0 x1 => ?_⟩
 ·have := List.all_eq_true.1 t2 x.toNat (List.mem_range.2 (by omega))
  simpa [Int.toNat_of_nonneg x0] using this
 ·have := beq_iff_eq.1 (List.all_eq_true.1 t3 x.toNat (List.mem_range.2 (by omega)))
  rw [show (((a.length + x.toNat : Nat)) : Int) = a.length + x by omega, show ((x.toNat : Nat) : Int) = x by omega] at this
  exact this
theorem cnt_join {l m a b : List Int} (h : pairB l m = true) (k : pairB a b = true) (hs : l.length + a.length ≤ 12) : pairB (joinL l a) (joinL m b) = true ∧ (coloursOf (joinL l a) (joinL m b)).2 = (coloursOf l m).2 + (coloursOf a b).2 := by
 obtain ⟨p1, p2, p3⟩ := pairB_all h
 obtain ⟨q1, q2, q3⟩ := pairB_all k
 obtain ⟨s1, s2, s3⟩ := jnAt_any p1 q1 hs
 obtain ⟨r1, r2, r3⟩ := jnAt_any p2 q2 (by omega)
 have hj : pairB (joinL l a) (joinL m b) = true := pairB_mk s1 r1 (by rw [joinL_length, joinL_length]; omega)
 have t := pairB_two h
 have u := pairB_two k
 have v := pairB_two hj
 have ct := coloursOf_col t
 have cu := coloursOf_col u
 have cv := coloursOf_col v
 have t0 := (coloursOf_hue t).2.2.1
 have u0 := (coloursOf_hue u).2.2.1
 have hlen := joinL_length l a
 refine ⟨hj, ?_⟩
 have ge : (coloursOf l m).2 + (coloursOf a b).2 ≤ (coloursOf (joinL l a) (joinL m b)).2 := by
  refine cnt_ge v (f := fun x => if x < l.length then rd (coloursOf l m).1 x else (coloursOf l m).2 + rd (coloursOf a b).1 (x - l.length)) (fun x x0 x1 => ?_) (fun c c0 c1 => ?_)
  ·rw [hlen] at x1
   by_cases g : x < l.length
   ·have a1 := t.top.lo x x0 g
    have a2 := t.top.hi x x0 g
    have a3 := t.bot.lo x x0 g
    have a4 := t.bot.hi x x0 g
    have := ct.inv x x0 g
    simp only [s2 x x0 g, r2 x x0 (by omega), if_pos g, if_pos a2, if_pos a4]
    exact this
   ·have b1 := u.top.lo (x - l.length) (by omega) (by omega)
    have b2 := u.top.hi (x - l.length) (by omega) (by omega)
    have b3 := u.bot.lo (x - l.length) (by omega) (by omega)
    have b4 := u.bot.hi (x - l.length) (by omega) (by omega)
    have := cu.inv (x - l.length) (by omega) (by omega)
    have e1 := s3 (x - l.length) (by omega) (by omega)
    have e2 := r3 (x - l.length) (by omega) (by omega)
    rw [show (l.length : Int) + (x - l.length) = x by omega] at e1
    rw [show (m.length : Int) + (x - l.length) = x by omega] at e2
    simp only [e1, e2, if_neg g, if_neg (show ¬ (l.length : Int) + rd a (x - l.length) < l.length by omega), if_neg (show ¬ (m.length : Int) + rd b (x - l.length) < l.length by omega)]
    rw [show (l.length : Int) + rd a (x - l.length) - l.length = rd a (x - l.length) by omega, show (m.length : Int) + rd b (x - l.length) - l.length = rd b (x - l.length) by omega, this.1, this.2]
    exact ⟨rfl, rfl⟩
  ·by_cases g : c < (coloursOf l m).2
   ·obtain ⟨j, j0, j1, e⟩ := ct.sur c c0 g
    exact ⟨j, j0, by rw [hlen]; omega, by simp only [if_pos j1]; exact e⟩
   ·obtain ⟨j, j0, j1, e⟩ := cu.sur (c - (coloursOf l m).2) (by omega) (by omega)
    refine ⟨j + l.length, by omega, by rw [hlen]; omega, ?_⟩
    simp only [if_neg (show ¬ j + (l.length : Int) < l.length by omega)]
    rw [show j + (l.length : Int) - l.length = j by omega, e]; omega
 have le : (coloursOf (joinL l a) (joinL m b)).2 ≤ (coloursOf l m).2 + (coloursOf a b).2 := by
  rcases Int.lt_or_le ((coloursOf l m).2 + (coloursOf a b).2) (coloursOf (joinL l a) (joinL m b)).2 with hlt | hle
  ·exfalso
   generalize hC : (coloursOf (joinL l a) (joinL m b)).2 = C at *
   generalize hcs : (coloursOf (joinL l a) (joinL m b)).1 = cs at *
   have hsur : ∀ k : Nat, ∃ j : Int, (k : Int) < C → 0 ≤ j ∧ j < l.length + a.length ∧ rd cs j = (k : Int) := fun k => by
    by_cases hk : (k : Int) < C
    ·obtain ⟨j, j0, j1, e⟩ := cv.sur k (by omega) hk
     rw [hlen] at j1
     exact ⟨j, fun _ => ⟨j0, by omega, e⟩⟩
    ·exact ⟨0, fun g => absurd g hk⟩
   obtain ⟨p, hp⟩ := Classical.axiomOfChoice hsur
   obtain ⟨x, y, hxy, hy, e⟩ := pigeon ((coloursOf l m).2 + (coloursOf a b).2).toNat (fun k => if p k < l.length then rd (coloursOf l m).1 (p k) else (coloursOf l m).2 + rd (coloursOf a b).1 (p k - l.length)) (fun k hk => by
    obtain ⟨p0, p1, _⟩ := hp k (by omega)
    by_cases g : p k < l.length
    ·have := ct.rng _ p0 g
     have := ct.done _ p0 g g
     simp only [if_pos g]; omega
    ·have := cu.rng (p k - l.length) (by omega) (by omega)
     have := cu.done (p k - l.length) (by omega) (by omega) (by omega)
     simp only [if_neg g]; omega)
   obtain ⟨x0, x1, ex⟩ := hp x (by omega)
   obtain ⟨y0, y1, ey⟩ := hp y (by omega)
   have fa : Inv l m (rd cs) := fun z z0 z1 => by
    have := cv.inv z z0 (by rw [hlen]; omega)
    rwa [s2 z z0 z1, r2 z z0 (by omega)] at this
   have fb : Inv a b (fun z => rd cs (l.length + z)) := fun z z0 z1 => by
    have := cv.inv (l.length + z) (by omega) (by rw [hlen]; omega)
    rw [s3 z z0 z1] at this
    have e3 := r3 z z0 (by omega)
    rw [← p3] at e3
    rw [e3] at this
    exact this
   by_cases g1 : p x < l.length <;> by_cases g2 : p y < l.length
   ·simp only [if_pos g1, if_pos g2] at e
    have := ct.fac _ fa _ _ x0 g1 y0 g2 (ct.done _ x0 g1 g1) e
    omega
   ·simp only [if_pos g1, if_neg g2] at e
    have := ct.rng _ x0 g1
    have := cu.done (p y - l.length) (by omega) (by omega) (by omega)
    omega
   ·simp only [if_neg g1, if_pos g2] at e
    have := ct.rng _ y0 g2
    have := cu.done (p x - l.length) (by omega) (by omega) (by omega)
    omega
   ·simp only [if_neg g1, if_neg g2] at e
    have := cu.fac _ fb (p x - l.length) (p y - l.length) (by omega) (by omega) (by omega) (by omega) (cu.done _ (by omega) (by omega) (by omega)) (by omega)
    simp only [show (l.length : Int) + (p x - l.length) = p x by omega, show (l.length : Int) + (p y - l.length) = p y by omega] at this
    omega
  ·exact hle
 omega
theorem samePair_any (p q : List Int) (hp : p.length ≤ 1048576) (hq : q.length ≤ 1048576) : (∃ K, ∀ k, K ≤ k → laws_sSamePair.f k p q p q = some (true)) := by
 obtain ⟨K1, h1⟩ := sSame_any p (by omega)
 obtain ⟨K2, h2⟩ := sSame_any q (by omega)
 refine ⟨K1 + K2, fun k hk => ?_⟩
 unfold laws_sSamePair.f
 rw [h1 k (by omega), Option.bind_some, if_pos rfl, h2 k (by omega), Option.bind_some]
theorem part_one (m q0 : List Int) (t : Int) (hm : m.length ≤ 14) (hq : q0.length ≤ 14) (K0 : Nat) : ∃ (n : Int), (∃ K, ∀ k, K ≤ k → impl_TurnMeander.f k m q0 t = some (turnMR m q0 t)) ∧ (∃ K, ∀ k, K ≤ k → spec_TurnMeander.f k m q0 t = some (turnMR m q0 t)) ∧ (∃ K, ∀ k, K ≤ k → impl_FlipMeander.f k m q0 = some (flipR m q0)) ∧ (∃ K, ∀ k, K ≤ k → spec_FlipMeander.f k m q0 = some (flipR m q0)) ∧
  (∃ K, ∀ k, K ≤ k → impl_MirrorMeander.f k m q0 = some (mirrorMR m q0)) ∧ (∃ K, ∀ k, K ≤ k → spec_MirrorMeander.f k m q0 = some (mirrorMR m q0)) ∧ ((flipR m q0).2.2 = true → (∃ K, ∀ k, K ≤ k → impl_ComponentsOf.f k m q0 = some ((n, true))) ∧ (∃ K, ∀ k, K ≤ k → impl_ComponentsOf.f k (flipR m q0).1 (flipR m q0).2.1 = some ((n, true))) ∧ (∃ K, ∀ k, K ≤ k → impl_ComponentsOf.f k (mirrorMR m q0).1 (mirrorMR m q0).2.1 = some ((n, true))) ∧
   (∃ K, ∀ k, K ≤ k → impl_FlipMeander.f k (flipR m q0).1 (flipR m q0).2.1 = some ((m, q0, true))) ∧ (∃ K, ∀ k, K ≤ k → impl_MirrorMeander.f k (mirrorMR m q0).1 (mirrorMR m q0).2.1 = some ((m, q0, true))) ∧
   ((turnMR m q0 t).2.2 = true → (∃ K, ∀ k, K ≤ k → impl_ComponentsOf.f k (turnMR m q0 t).1 (turnMR m q0 t).2.1 = some ((n, true))) ∧ (∃ K, ∀ k, K ≤ k → impl_TurnMeander.f k (turnMR m q0 t).1 (turnMR m q0 t).2.1 (wrap64 (-t)) = some ((m, q0, true))))) := by
 refine ⟨(coloursOf m q0).2, implTurnM_any _ _ _ (by omega) (by omega), specTurnM_any _ _ _ (by omega) (by omega), implFlip_any _ _ (by omega) (by omega), specFlip_any _ _ (by omega) (by omega), implMirrorM_any _ _ (by omega) (by omega), specMirrorM_any _ _ (by omega) (by omega), fun h => ?_⟩
 have hp : pairB m q0 = true := by
  unfold flipR at h
  split at h
  ·assumption
  ·cases h
 have comp : ∀ {a b : List Int} {n : Int}, a.length ≤ 14 → b.length ≤ 14 → pairB a b = true → (coloursOf a b).2 = n → (∃ K, ∀ k, K ≤ k → impl_ComponentsOf.f k a b = some ((n, true))) := fun {a b n} ha hb hab e => by
  have := implComp_any a b (by omega) (by omega)
  rwa [show compR a b = (n, true) by unfold compR; rw [if_pos hab, e]] at this
 have ef : flipR m q0 = (q0, m, true) := if_pos hp
 have em : mirrorMR m q0 = (mirrorL m, mirrorL q0, true) := if_pos hp
 obtain ⟨f1, f2⟩ := cnt_flip hp
 obtain ⟨m1, m2⟩ := cnt_mirror hp
 obtain ⟨b1, b2, b3⟩ := pairB_all hp
 rw [ef, em]
 refine ⟨comp hm hq hp rfl, comp hq hm f1 f2, comp (by rw [mirrorL_length]; exact hm) (by rw [mirrorL_length]; exact hq) m1 m2, ?_, ?_, fun ht => ?_⟩
 ·have := implFlip_any q0 m (by omega) (by omega)
  rwa [show flipR q0 m = (m, q0, true) from if_pos f1] at this
 ·have := implMirrorM_any (mirrorL m) (mirrorL q0) (by rw [mirrorL_length]; omega) (by rw [mirrorL_length]; omega)
  rwa [show mirrorMR (mirrorL m) (mirrorL q0) = (m, q0, true) by unfold mirrorMR; rw [if_pos m1, (mir_any b1).2, (mir_any b2).2]] at this
 ·have hr : -100 ≤ t ∧ t ≤ 100 := by
   unfold turnMR at ht
   split at ht
   ·rename_i g; exact g.2
   ·cases ht
  have et : turnMR m q0 t = (turnL m t, turnL q0 t, true) := if_pos ⟨hp, hr⟩
  obtain ⟨t1, t2⟩ := cnt_turn hp hr
  rw [et]
  refine ⟨comp (by rw [turnL_len]; exact hm) (by rw [turnL_len]; exact hq) t1 t2, ?_⟩
  have := implTurnM_any (turnL m t) (turnL q0 t) (-t) (by rw [turnL_len]; omega) (by rw [turnL_len]; omega)
  rw [w64 (x := -t) (by omega) (by omega)]
  rwa [show turnMR (turnL m t) (turnL q0 t) (-t) = (m, q0, true) by unfold turnMR; rw [if_pos ⟨t1, by omega, by omega⟩, (turnBack_any b1 hr).2.1, (turnBack_any b2 hr).2.1]] at this
theorem part_join (a0 a1 b0 b1 : List Int) (h0 : a0.length ≤ 14) (h1 : a1.length ≤ 14) (h2 : b0.length ≤ 14) (h3 : b1.length ≤ 14) : ∃ n1 n2 : Int, (∃ K, ∀ k, K ≤ k → impl_JoinMeanders.f k a0 a1 b0 b1 = some (joinMR a0 a1 b0 b1)) ∧ (∃ K, ∀ k, K ≤ k → spec_JoinMeanders.f k a0 a1 b0 b1 = some (joinMR a0 a1 b0 b1)) ∧
  ((joinMR a0 a1 b0 b1).2.2 = true → (∃ K, ∀ k, K ≤ k → impl_ComponentsOf.f k a0 a1 = some ((n1, true))) ∧ (∃ K, ∀ k, K ≤ k → impl_ComponentsOf.f k b0 b1 = some ((n2, true))) ∧ (∃ K, ∀ k, K ≤ k → impl_ComponentsOf.f k (joinMR a0 a1 b0 b1).1 (joinMR a0 a1 b0 b1).2.1 = some ((wrap64 (n1 + n2), true)))) := by
 refine ⟨(coloursOf a0 a1).2, (coloursOf b0 b1).2, implJoinM_any _ _ _ _ (by omega) (by omega) (by omega) (by omega), specJoinM_any _ _ _ _ (by omega) (by omega) (by omega) (by omega), fun h => ?_⟩
 have hc : pairB a0 a1 = true ∧ pairB b0 b1 = true ∧ ¬ (a0.length : Int) + b0.length > 12 := by
  unfold joinMR at h
  split at h
  ·assumption
  ·cases h
 obtain ⟨c1, c2, c3⟩ := hc
 have ej : joinMR a0 a1 b0 b1 = (joinL a0 b0, joinL a1 b1, true) := if_pos ⟨c1, c2, c3⟩
 obtain ⟨j1, j2⟩ := cnt_join c1 c2 (by omega)
 obtain ⟨q1, q2⟩ := (joinMR_length a0 a1 b0 b1)
 rw [ej] at q1 q2 ⊢
 have comp : ∀ {a b : List Int} {n : Int}, a.length ≤ 14 → b.length ≤ 14 → pairB a b = true → (coloursOf a b).2 = n → (∃ K, ∀ k, K ≤ k → impl_ComponentsOf.f k a b = some ((n, true))) := fun {a b n} ha hb hab e => by
  have := implComp_any a b (by omega) (by omega)
  rwa [show compR a b = (n, true) by unfold compR; rw [if_pos hab, e]] at this
 have r1 := (coloursOf_hue (pairB_two c1)).2.2
 have r2 := (coloursOf_hue (pairB_two c2)).2.2
 have q1 : (joinL a0 b0).length ≤ 12 := q1
 have q2 : (joinL a1 b1).length ≤ 12 := q2
 refine ⟨comp h0 h1 c1 rfl, comp h2 h3 c2 rfl, comp (show (joinL a0 b0).length ≤ 14 by omega) (show (joinL a1 b1).length ≤ 14 by omega) j1 ?_⟩
 rw [j2, w64 (by omega) (by omega)]
theorem FnPairsMoved : laws_FnPairsMoved.Pure := by
 intro l0 l1 hm0 _ hw0 hm1 _ hw1
 by_cases hb : l0.length ≤ 1048576 ∧ (l1.length : Int) ≤ 1048576 - l0.length
 ·refine .inr ?_
  have hc0 := bys_of (c := l0) hb.1 hw0
  have hc1 := bys_of (c := l1) (by omega) hw1
  have hbig := big_any l0 l1 hb.1 hb.2
  obtain ⟨m, m', t, ⟨K1, e1⟩, lm, lm'⟩ := drawTurnM_any hc0
  obtain ⟨n, ⟨K2, e2⟩, ⟨K3, e3⟩, ⟨K4, e4⟩, ⟨K5, e5⟩, ⟨K6, e6⟩, ⟨K7, e7⟩, hone⟩ := part_one m m' t lm lm' 0
  have q1 := turnMR_length m m' t
  have q2 := flipR_length m m'
  have q3 := mirrorMR_length m m'
  obtain ⟨K8, e8⟩ := samePair_any (turnMR m m' t).1 (turnMR m m' t).2.1 (by omega) (by omega)
  obtain ⟨K9, e9⟩ := samePair_any (flipR m m').1 (flipR m m').2.1 (by omega) (by omega)
  obtain ⟨K10, e10⟩ := samePair_any (mirrorMR m m').1 (mirrorMR m m').2.1 (by omega) (by omega)
  obtain ⟨K11, e11⟩ := samePair_any m m' (by omega) (by omega)
  obtain ⟨a, a', b, b', ⟨K12, e12⟩, la, la', lb, lb'⟩ := drawJoinM_any hc1
  obtain ⟨n1, n2, ⟨K13, e13⟩, ⟨K14, e14⟩, htold⟩ := part_join a a' b b' la la' lb lb'
  have q4 := joinMR_length a a' b b'
  obtain ⟨K15, e15⟩ := samePair_any (joinMR a a' b b').1 (joinMR a a' b b').2.1 (by omega) (by omega)
  obtain ⟨s, ⟨K16, e16⟩, ls⟩ := drawParseM_any hc1
  obtain ⟨R, ⟨K17, e17⟩, ⟨K18, e18⟩, lr, lr', hR⟩ := PM_any s (by omega)
  obtain ⟨K19, e19⟩ := samePair_any R.1 R.2.1 (by omega) (by omega)
  obtain ⟨u, u', ⟨K20, e20⟩, lu, lu'⟩ := drawMeText_any hc0
  obtain ⟨K21, e21⟩ := implMeText_any u u' (by omega) (by omega)
  obtain ⟨K22, e22⟩ := specMeText_any u u' (by omega) (by omega)
  obtain ⟨K23, e23⟩ := samePair_any u u' (by omega) (by omega)
  obtain ⟨K24, e24⟩ := implMeText_any R.1 R.2.1 (by omega) (by omega)
  have hone2 : ∃ K, ∀ k, K ≤ k → ((flipR m m').2.2 = true → impl_ComponentsOf.f k m m' = some (n, true) ∧ impl_ComponentsOf.f k (flipR m m').1 (flipR m m').2.1 = some (n, true) ∧ impl_ComponentsOf.f k (mirrorMR m m').1 (mirrorMR m m').2.1 = some (n, true) ∧
    impl_FlipMeander.f k (flipR m m').1 (flipR m m').2.1 = some (m, m', true) ∧ impl_MirrorMeander.f k (mirrorMR m m').1 (mirrorMR m m').2.1 = some (m, m', true) ∧
    ((turnMR m m' t).2.2 = true → impl_ComponentsOf.f k (turnMR m m' t).1 (turnMR m m' t).2.1 = some (n, true) ∧ impl_TurnMeander.f k (turnMR m m' t).1 (turnMR m m' t).2.1 (wrap64 (-t)) = some (m, m', true))) := by
   by_cases h : (flipR m m').2.2 = true
   ·obtain ⟨⟨A1, g1⟩, ⟨A2, g2⟩, ⟨A3, g3⟩, ⟨A4, g4⟩, ⟨A5, g5⟩, hok⟩ := hone h
    by_cases hk : (turnMR m m' t).2.2 = true
    ·obtain ⟨⟨A6, g6⟩, ⟨A7, g7⟩⟩ := hok hk
     exact ⟨A1 + A2 + A3 + A4 + A5 + A6 + A7, fun k hk _ => ⟨g1 k (by omega), g2 k (by omega), g3 k (by omega), g4 k (by omega), g5 k (by omega), fun _ => ⟨g6 k (by omega), g7 k (by omega)⟩⟩⟩
    ·exact ⟨A1 + A2 + A3 + A4 + A5, fun k hkk _ => ⟨g1 k (by omega), g2 k (by omega), g3 k (by omega), g4 k (by omega), g5 k (by omega), fun g => absurd g hk⟩⟩
   ·exact ⟨0, fun k _ g => absurd g h⟩
  obtain ⟨K25, e25⟩ := hone2
  have htold2 : ∃ K, ∀ k, K ≤ k → ((joinMR a a' b b').2.2 = true → impl_ComponentsOf.f k a a' = some (n1, true) ∧ impl_ComponentsOf.f k b b' = some (n2, true) ∧ impl_ComponentsOf.f k (joinMR a a' b b').1 (joinMR a a' b b').2.1 = some (wrap64 (n1 + n2), true)) := by
   by_cases h : (joinMR a a' b b').2.2 = true
   ·obtain ⟨⟨A1, g1⟩, ⟨A2, g2⟩, ⟨A3, g3⟩⟩ := htold h
    exact ⟨A1 + A2 + A3, fun k hk _ => ⟨g1 k (by omega), g2 k (by omega), g3 k (by omega)⟩⟩
   ·exact ⟨0, fun k _ g => absurd g h⟩
  obtain ⟨K26, e26⟩ := htold2
  have hyes2 : ∃ K, ∀ k, K ≤ k → ((meTextR u u').2 = true → impl_ParseMeander.f k (meTextR u u').1 = some (u, u', true)) := by
   by_cases h : (meTextR u u').2 = true
   ·have hp : pairB u u' = true := by
     unfold meTextR at h
     split at h
     ·assumption
     ·cases h
    obtain ⟨A1, g1⟩ := parse_text hp
    refine ⟨A1, fun k hk _ => ?_⟩
    rw [show meTextR u u' = (bar2 u u', true) from if_pos hp]
    exact g1 k hk
   ·exact ⟨0, fun k _ g => absurd g h⟩
  obtain ⟨K27, e27⟩ := hyes2
  have htw : R.2.2 = true → meTextR R.1 R.2.1 = (s, true) := fun h => by
   obtain ⟨p, q, hs, h1, h2, h3⟩ := hR h
   have x1 := text_of_parsed p h1
   have x2 := text_of_parsed q h2
   unfold meTextR
   rw [if_pos h3, hs]
   unfold bar2
   rw [x1, x2]
  obtain ⟨K, hK⟩ : ∃ K, K = K1 + K2 + K3 + K4 + K5 + K6 + K7 + K8 + K9 + K10 + K11 + K12 + K13 + K14 + K15 + K16 + K17 + K18 + K19 + K20 + K21 + K22 + K23 + K24 + K25 + K26 + K27 := ⟨_, rfl⟩
  refine ⟨K, (m, m'), ((turnMR m m' t).1, (turnMR m m' t).2.1), ((flipR m m').1, (flipR m m').2.1), ((mirrorMR m m').1, (mirrorMR m m').2.1), (a, a'), (b, b'), ((joinMR a a' b b').1, (joinMR a a' b b').2.1), (R.1, R.2.1), (u, u'), t, n, n1, n2,
   (turnMR m m' t).2.2, (flipR m m').2.2, (mirrorMR m m').2.2, (joinMR a a' b b').2.2, R.2.2, (meTextR u u').2, s, (meTextR u u').1, ⟨hbig, e1 K (by omega), e2 K (by omega), e3 K (by omega), e4 K (by omega), e5 K (by omega), e6 K (by omega), e7 K (by omega), e8 K (by omega), e9 K (by omega), e10 K (by omega)⟩, fun h => ?_, ⟨e12 K (by omega), e13 K (by omega), e14 K (by omega), e15 K (by omega)⟩, fun h => e26 K (by omega) h,
   ⟨e16 K (by omega), e17 K (by omega), e18 K (by omega), e19 K (by omega)⟩, fun h => ?_, ⟨e20 K (by omega), e21 K (by omega), e22 K (by omega)⟩, fun h => ⟨e27 K (by omega) h, e23 K (by omega)⟩⟩
  ·obtain ⟨g1, g2, g3, g4, g5, g6⟩ := e25 K (by omega) h
   exact ⟨g1, g2, g3, g4, g5, e11 K (by omega), g6⟩
  ·have := e24 K (by omega)
   rwa [htw h] at this
 ·exact .inl (big_yes l0 l1 hb)
end Go.Proofs.Ytfencncopkeobaa.Pure
