/- The law FnSystemsMoved answers true at every pair of byte rows: turns and mirrors of systems undo themselves, joined and covered ones keep their parts. Conditions: none beyond the form's own. -/
import Derived.Test.YtonobgbpgeielaaQFnSystemsMovedx18
import Derived.Test.YtonobgbpgeielaaMyPl
namespace Go.Proofs.Ytonobgbpgeielaa.Pure
open Go.RowKit Go.Proofs.Ytonobgbpgeielaa.QFnSystemsMoved Go.Proofs.YtonobgbpgeielaaW.PrintWords Go.Proofs.YtonobgbpgeielaaW.PrintLast
open laws_FnSystemsMoved
set_option linter.unusedVariables false
set_option linter.unusedSimpArgs false
theorem w64 {x : Int} (h1 : -9223372036854775808 ≤ x) (h2 : x < 9223372036854775808) : wrap64 x = x := by unfold wrap64; omega
theorem ev_rs {α : Type} {g : Nat → Option α} {r : α} (K : Nat) (h : ∀ m, K ≤ m → g (m + 1) = some r) : ∃ K, ∀ k, K ≤ k → g k = some r := by
 refine ⟨K + 1, fun k hk => ?_⟩
 obtain ⟨m, rfl⟩ : ∃ m, k = m + 1 := ⟨k - 1, by omega⟩
 exact h m (by omega)
noncomputable def tf (P : Prop) : Bool := @decide P (Classical.propDecidable P)
theorem tf_t {P : Prop} (h : P) : tf P = true := by unfold tf; simp [h]
theorem tf_f {P : Prop} (h : ¬ P) : tf P = false := by unfold tf; simp [h]
theorem tf_iff {P : Prop} : tf P = true ↔ P := by unfold tf; simp
theorem tf_c {P Q : Prop} (h : P ↔ Q) : tf P = tf Q := by rw [propext h]
theorem rd_get (l : List Int) (i : Nat) (h : i < l.length) : rd l i = l[i] := by
 unfold rd
 rw [Int.toNat_natCast, List.getD_eq_getElem?_getD, List.getElem?_eq_getElem h]; rfl
theorem rd_mem (l : List Int) (i : Int) (h0 : 0 ≤ i) (h : i < l.length) : rd l i ∈ l := by
 have e := rd_get l i.toNat (by omega)
 rw [show ((i.toNat : Nat) : Int) = i by omega] at e
 rw [e]; exact List.getElem_mem _
theorem in_any (a lo hi : Int) : impl_in.f a lo hi = some (decide (lo ≤ a ∧ a ≤ hi)) := by
 unfold impl_in.f
 by_cases h : lo ≤ a <;> simp [h]
theorem l1In_any (a lo hi : Int) : spec_l1In.f a lo hi = some (decide (lo ≤ a ∧ a ≤ hi)) := by
 unfold spec_l1In.f
 by_cases h : lo ≤ a
 ·rw [if_pos h]; simp [h]
 ·rw [if_neg h]; simp [h]
def AllIn (n : Int) (q : Int → Int) (i : Int) : Prop := ∀ j : Int, i ≤ j → j < n → 0 ≤ q j ∧ q j < n ∧ q j ≠ j ∧ q (q j) = j
def NoCross (n : Int) (q : Int → Int) (i : Int) : Prop := ∀ a b, i ≤ a → a < n → a < b → b < q a → a ≤ q b ∧ q b ≤ q a
theorem sys_of {n : Int} {q : Int → Int} : Pl.Sys n q ↔ AllIn n q 0 ∧ NoCross n q 0 :=
 ⟨fun s => ⟨fun j h0 h1 => ⟨s.lo j h0 h1, s.hi j h0 h1, s.ne j h0 h1, s.inv j h0 h1⟩, s.cr⟩,
 fun ⟨h, c⟩ => ⟨fun j h0 h1 => (h j h0 h1).1, fun j h0 h1 => (h j h0 h1).2.1, fun j h0 h1 => (h j h0 h1).2.2.1, fun j h0 h1 => (h j h0 h1).2.2.2, c⟩⟩
theorem isSystem_l2 (l : List Int) (hn : l.length < 4611686018427387904) (a : Int) (ha : 0 ≤ a) (hal : a < l.length) (hA : AllIn l.length (rd l) 0)
  (h1 : (∃ K, ∀ k, K ≤ k → impl_isSystem.l1 k l l l.length (a + 1) = some (tf (NoCross l.length (rd l) (a + 1))))) (d : Nat) :
  ∀ b : Int, a < b → rd l a - b ≤ d → (∃ K, ∀ k, K ≤ k → impl_isSystem.l2 k l a (rd l a) b l l.length a = some (tf ((∀ b' : Int, b ≤ b' → b' < rd l a → a ≤ rd l b' ∧ rd l b' ≤ rd l a) ∧ NoCross l.length (rd l) (a + 1)))) := by
 have hq := hA a ha hal
 obtain ⟨K1, h1⟩ := h1
 have out : ∀ b : Int, a < b → ¬ b < rd l a → (∃ K, ∀ k, K ≤ k → impl_isSystem.l2 k l a (rd l a) b l l.length a = some (tf ((∀ b' : Int, b ≤ b' → b' < rd l a → a ≤ rd l b' ∧ rd l b' ≤ rd l a) ∧ NoCross l.length (rd l) (a + 1)))) := by
  intro b hb hlt
  refine ev_rs K1 fun m hm => ?_
  simp (disch := omega) only [impl_isSystem.l2, if_neg, w64]
  rw [h1 m hm]
  congr 1
  exact tf_c ⟨fun h => ⟨fun b' _ _ => by omega, h⟩, fun h => h.2⟩
 induction d with
 | zero =>
  intro b hb hd
  exact out b hb (by omega)
 | succ d ih =>
  intro b hb hd
  by_cases hlt : b < rd l a
  ·obtain ⟨K, ih⟩ := ih (b + 1) (by omega) (by omega)
   by_cases he : a ≤ rd l b ∧ rd l b ≤ rd l a
   ·refine ev_rs K fun m hm => ?_
    simp (disch := omega) only [impl_isSystem.l2, if_pos, w64, in_any, Option.bind_some]
    rw [decide_eq_true he]
    simp only [if_true]
    rw [ih m hm]
    congr 1
    refine tf_c ⟨fun h => ⟨fun b' h2 h3 => ?_, h.2⟩, fun h => ⟨fun b' h2 h3 => h.1 b' (by omega) h3, h.2⟩⟩
    by_cases e : b' = b
    ·rw [e]; exact he
    ·exact h.1 b' (by omega) h3
   ·refine ev_rs 0 fun m hm => ?_
    simp (disch := omega) only [impl_isSystem.l2, if_pos, in_any, Option.bind_some]
    rw [decide_eq_false he, tf_f]
    ·simp
    ·exact fun h => he (h.1 b (Int.le_refl _) hlt)
  ·exact out b hb hlt
theorem isSystem_l1 (l : List Int) (hn : l.length < 4611686018427387904) (hA : AllIn l.length (rd l) 0) (d : Nat) : ∀ a : Int, 0 ≤ a → (l.length : Int) - a ≤ d →
  (∃ K, ∀ k, K ≤ k → impl_isSystem.l1 k l l l.length a = some (tf (NoCross l.length (rd l) a))) := by
 have out : ∀ a : Int, ¬ a < l.length → (∃ K, ∀ k, K ≤ k → impl_isSystem.l1 k l l l.length a = some (tf (NoCross l.length (rd l) a))) := by
  intro a hlt
  refine ev_rs 0 fun m hm => ?_
  simp (disch := omega) only [impl_isSystem.l1, if_neg]
  rw [tf_t]
  intro a' b h1 h2; omega
 induction d with
 | zero => intro a h0 hd; exact out a (by omega)
 | succ d ih =>
  intro a h0 hd
  by_cases hlt : a < (l.length : Int)
  ·have h1 := ih (a + 1) (by omega) (by omega)
   have hq := hA a h0 hlt
   obtain ⟨K, h2⟩ := isSystem_l2 l hn a h0 hlt hA h1 (rd l a - (a + 1)).toNat (a + 1) (by omega) (by omega)
   refine ev_rs K fun m hm => ?_
   simp (disch := omega) only [impl_isSystem.l1, if_pos, w64]
   rw [h2 m hm]
   congr 1
   refine tf_c ⟨fun h a' b h3 h4 h5 h6 => ?_, fun h => ⟨fun b' h3 h4 => h a b' (Int.le_refl _) hlt (by omega) h4, fun a' b h3 h4 h5 h6 => h a' b (by omega) h4 h5 h6⟩⟩
   by_cases e : a' = a
   ·subst e; exact h.1 b (by omega) h6
   ·exact h.2 a' b (by omega) h4 h5 h6
  ·exact out a hlt
theorem isSystem_l0 (l : List Int) (hn : l.length < 4611686018427387904) (d : Nat) : ∀ i : Int, 0 ≤ i → (l.length : Int) - i ≤ d → (∀ j : Int, 0 ≤ j → j < i → 0 ≤ rd l j ∧ rd l j < l.length ∧ rd l j ≠ j ∧ rd l (rd l j) = j) →
  (∃ K, ∀ k, K ≤ k → impl_isSystem.l0 k l l l.length i = some (tf (AllIn l.length (rd l) i ∧ NoCross l.length (rd l) 0))) := by
 have out : ∀ i : Int, 0 ≤ i → ¬ i < l.length → (∀ j : Int, 0 ≤ j → j < i → 0 ≤ rd l j ∧ rd l j < l.length ∧ rd l j ≠ j ∧ rd l (rd l j) = j) → (∃ K, ∀ k, K ≤ k → impl_isSystem.l0 k l l l.length i = some (tf (AllIn l.length (rd l) i ∧ NoCross l.length (rd l) 0))) := by
  intro i h0 hlt hp
  obtain ⟨K, h1⟩ := isSystem_l1 l hn (fun j h1 h2 => hp j h1 (by omega)) l.length 0 (by omega) (by omega)
  refine ev_rs K fun m hm => ?_
  simp (disch := omega) only [impl_isSystem.l0, if_neg]
  rw [h1 m hm]
  congr 1
  exact tf_c ⟨fun h => ⟨fun j _ _ => by omega, h⟩, fun h => h.2⟩
 induction d with
 | zero => intro i h0 hd hp; exact out i h0 (by omega) hp
 | succ d ih =>
  intro i h0 hd hp
  by_cases hlt : i < (l.length : Int)
  ·by_cases hr : 0 ≤ rd l i ∧ rd l i ≤ (l.length : Int) - 1
   ·by_cases hs : rd l i = i
    ·refine ev_rs 0 fun m hm => ?_
     simp (disch := omega) only [impl_isSystem.l0, if_pos, w64, in_any, Option.bind_some]
     rw [decide_eq_true hr, tf_f]
     ·simp [hs]
     ·exact fun h => (h.1 i (Int.le_refl _) hlt).2.2.1 hs
    ·by_cases hi : rd l (rd l i) = i
     ·obtain ⟨K, ih⟩ := ih (i + 1) (by omega) (by omega) (fun j h1 h2 => by
       by_cases e : j = i
       ·subst e; exact ⟨by omega, by omega, hs, hi⟩
       ·exact hp j h1 (by omega))
      refine ev_rs K fun m hm => ?_
      simp (disch := omega) only [impl_isSystem.l0, if_pos, if_neg, w64, in_any, Option.bind_some]
      rw [decide_eq_true hr, if_pos rfl, ih m hm]
      congr 1
      refine tf_c ⟨fun h => ⟨fun j h1 h2 => ?_, h.2⟩, fun h => ⟨fun j h1 h2 => h.1 j (by omega) h2, h.2⟩⟩
      by_cases e : j = i
      ·subst e; exact ⟨by omega, by omega, hs, hi⟩
      ·exact h.1 j (by omega) h2
     ·refine ev_rs 0 fun m hm => ?_
      simp (disch := omega) only [impl_isSystem.l0, if_pos, if_neg, w64, in_any, Option.bind_some]
      rw [decide_eq_true hr, tf_f]
      ·simp
      ·exact fun h => hi (h.1 i (Int.le_refl _) hlt).2.2.2
   ·refine ev_rs 0 fun m hm => ?_
    simp (disch := omega) only [impl_isSystem.l0, if_pos, w64, in_any, Option.bind_some]
    rw [decide_eq_false hr, tf_f]
    ·simp
    ·exact fun h => hr (by have := h.1 i (Int.le_refl _) hlt; omega)
  ·exact out i h0 hlt hp
noncomputable def sysB (l : List Int) : Bool := tf (l.length ≤ 12 ∧ Pl.Sys l.length (rd l))
theorem isSystem_any (l : List Int) (hn : l.length < 4611686018427387904) : (∃ K, ∀ k, K ≤ k → impl_isSystem.f k l = some (tf (Pl.Sys l.length (rd l)))) := by
 obtain ⟨K, h⟩ := isSystem_l0 l hn l.length 0 (by omega) (by omega) (fun j _ _ => by omega)
 refine ⟨K, fun k hk => ?_⟩
 unfold impl_isSystem.f
 rw [h k hk]
 exact congrArg _ (tf_c sys_of.symm)
theorem IsSystem_any (l : List Int) (hn : l.length < 4611686018427387904) : (∃ K, ∀ k, K ≤ k → impl_IsSystem.f k l = some (sysB l)) := by
 obtain ⟨K, h⟩ := isSystem_any l hn
 refine ⟨K, fun k hk => ?_⟩
 unfold impl_IsSystem.f sysB
 by_cases h12 : (l.length : Int) ≤ 12
 ·rw [if_pos h12, h k hk]
  exact congrArg _ (tf_c ⟨fun h => ⟨by omega, h⟩, fun h => h.2⟩)
 ·rw [if_neg h12, tf_f]
  exact fun h => h12 (by omega)
theorem l1All_l (l : List Int) (hn : l.length < 4611686018427387904) (lo hi : Int) (d : Nat) : ∀ i : Int, 0 ≤ i → (l.length : Int) - i ≤ d →
  (∃ K, ∀ k, K ≤ k → spec_l1All.l0 k lo hi l l.length i = some (tf (∀ j : Int, i ≤ j → j < l.length → lo ≤ rd l j ∧ rd l j ≤ hi))) := by
 have out : ∀ i : Int, ¬ i < l.length → (∃ K, ∀ k, K ≤ k → spec_l1All.l0 k lo hi l l.length i = some (tf (∀ j : Int, i ≤ j → j < l.length → lo ≤ rd l j ∧ rd l j ≤ hi))) := by
  intro i hlt
  refine ev_rs 0 fun m hm => ?_
  simp (disch := omega) only [spec_l1All.l0, if_neg]
  rw [tf_t]
  intro j h1 h2; omega
 induction d with
 | zero => intro i h0 hd; exact out i (by omega)
 | succ d ih =>
  intro i h0 hd
  by_cases hlt : i < (l.length : Int)
  ·obtain ⟨K, ih⟩ := ih (i + 1) (by omega) (by omega)
   by_cases he : lo ≤ rd l i ∧ rd l i ≤ hi
   ·refine ev_rs K fun m hm => ?_
    simp (disch := omega) only [spec_l1All.l0, if_pos, w64, l1In_any, Option.bind_some]
    rw [decide_eq_true he, if_pos rfl, ih m hm]
    congr 1
    refine tf_c ⟨fun h j h1 h2 => ?_, fun h j h1 h2 => h j (by omega) h2⟩
    by_cases e : j = i
    ·rw [e]; exact he
    ·exact h j (by omega) h2
   ·refine ev_rs 0 fun m hm => ?_
    simp (disch := omega) only [spec_l1All.l0, if_pos, l1In_any, Option.bind_some]
    rw [decide_eq_false he, tf_f]
    ·simp
    ·exact fun h => he (h i (Int.le_refl _) hlt)
  ·exact out i hlt
theorem l1All_any (l : List Int) (hn : l.length < 4611686018427387904) (lo hi : Int) : (∃ K, ∀ k, K ≤ k → spec_l1All.f k l lo hi = some (tf (∀ j : Int, 0 ≤ j → j < l.length → lo ≤ rd l j ∧ rd l j ≤ hi))) :=
 l1All_l l hn lo hi l.length 0 (by omega) (by omega)
theorem ahGood_l (l : List Int) (hn : l.length ≤ 12) (hR : ∀ j : Int, 0 ≤ j → j < l.length → 0 ≤ rd l j ∧ rd l j ≤ (l.length : Int) - 1) (d : Nat) : ∀ (i : Int) (op : List Int), 0 ≤ i → i ≤ l.length → (l.length : Int) - i ≤ d → (op.length : Int) ≤ i →
  Pl.Ideal (rd l) i op ∨ (Pl.Doomed l.length (rd l) i op ∧ ¬ Pl.Sys l.length (rd l)) →
  (∃ K, ∀ k, K ≤ k → spec_ahGood.l0 k l op l l.length i = some (tf (Pl.Sys l.length (rd l)))) := by
 have out : ∀ (i : Int) (op : List Int), i ≤ l.length → ¬ i < l.length → Pl.Ideal (rd l) i op ∨ (Pl.Doomed l.length (rd l) i op ∧ ¬ Pl.Sys l.length (rd l)) →
  (∃ K, ∀ k, K ≤ k → spec_ahGood.l0 k l op l l.length i = some (tf (Pl.Sys l.length (rd l)))) := by
  intro i op hi hlt h
  rcases h with h | h
  ·have e : i = l.length := by omega
   subst e
   refine ev_rs 0 fun m hm => ?_
   simp (disch := omega) only [spec_ahGood.l0, if_neg]
   rw [tf_t (h.finish (fun j h0 h1 => (hR j h0 h1).1) (fun j h0 h1 => by have := hR j h0 h1; omega))]
  ·have := h.1.lt; omega
 induction d with
 | zero => intro i op h0 hi hd hop h; exact out i op hi (by omega) h
 | succ d ih =>
  intro i op h0 hi hd hop h
  by_cases hlt : i < (l.length : Int)
  ·have hr := hR i h0 hlt
   by_cases hgt : rd l i > i
   ·by_cases he : rd l (rd l i) = i
    ·-- an arch begins
     obtain ⟨K, ih⟩ := ih (i + 1) (i :: op) (by omega) (by omega) (by omega) (by simp; omega) (by
      rcases h with h | h
      ·exact .inl (h.push h0 hgt he)
      ·exact .inr ⟨h.1.push hgt, h.2⟩)
     refine ev_rs (K + 1) fun m hm => ?_
     obtain ⟨m, rfl⟩ : ∃ m', m = m' + 1 := ⟨m - 1, by omega⟩
     have hb : (rd l (rd l i) == i) = true := by simp [he]
     simp (disch := omega) only [spec_ahGood.l0, if_pos, w64]
     rw [hb]
     simp only [spec_ahGood.j2, if_true, Option.bind_some]
     rw [if_pos (by simp; omega), w64 (by omega) (by omega)]
     exact ih m (by omega)
    ·have hb : (rd l (rd l i) == i) = false := by simp [he]
     refine ev_rs 1 fun m hm => ?_
     obtain ⟨m, rfl⟩ : ∃ m', m = m' + 1 := ⟨m - 1, by omega⟩
     simp (disch := omega) only [spec_ahGood.l0, if_pos, w64]
     rw [hb, tf_f (Pl.Ideal.fail_push he h0 hlt)]
     simp (disch := omega) only [spec_ahGood.j2, Bool.false_eq_true, if_false, if_neg]
   ·by_cases hs : rd l i = i
    ·refine ev_rs 1 fun m hm => ?_
     obtain ⟨m, rfl⟩ : ∃ m', m = m' + 1 := ⟨m - 1, by omega⟩
     simp (disch := omega) only [spec_ahGood.l0, if_pos, if_neg, w64]
     rw [tf_f (Pl.Ideal.fail_self hs h0 hlt)]
     simp (disch := omega) only [spec_ahGood.j2, Bool.false_eq_true, if_false, if_neg]
    ·have hls : rd l i < i := by omega
     have stop : op.head? ≠ some (rd l i) → ¬ Pl.Sys l.length (rd l) := fun hh => by
      rcases h with h | h
      ·exact h.fail_pop h0 hlt hls hh
      ·exact h.2
     cases op with
     | nil =>
      refine ev_rs 1 fun m hm => ?_
      obtain ⟨m, rfl⟩ : ∃ m', m = m' + 1 := ⟨m - 1, by omega⟩
      simp (disch := omega) only [spec_ahGood.l0, if_pos, if_neg, w64]
      rw [tf_f (stop (by simp))]
      simp (disch := omega) only [spec_ahGood.j2, Bool.false_eq_true, if_false, if_pos]
      simp
     | cons b t =>
      have hd0 : rd (b :: t) 0 = b := rfl
      by_cases hbt : b = rd l i
      ·obtain ⟨K, ih⟩ := ih (i + 1) t (by omega) (by omega) (by omega) (by simp at hop; omega) (by
        rcases h with h | h
        ·by_cases he : rd l b = i
         ·exact .inl (h.pop h0 hbt.symm (by omega) he (fun b h1 h2 => (hR b h1 (by omega)).1))
         ·refine .inr ⟨h.doom h0 hbt.symm (by omega) he ?_, ?_⟩
          ·have := (hR b (by omega) (by omega)).2; omega
          ·intro s
           have := s.inv i h0 hlt
           rw [← hbt] at this; exact he this
        ·exact .inr ⟨h.1.pop hbt.symm, h.2⟩)
       refine ev_rs (K + 1) fun m hm => ?_
       obtain ⟨m, rfl⟩ : ∃ m', m = m' + 1 := ⟨m - 1, by omega⟩
       simp (disch := omega) only [spec_ahGood.l0, if_pos, if_neg, w64]
       simp only [spec_ahGood.j2, Bool.false_eq_true, if_false]
       rw [if_pos hls, if_pos (by simp), if_pos (by simp), hd0, if_pos hbt, if_pos (by simp; omega), w64 (by omega) (by omega)]
       exact ih m (by omega)
      ·refine ev_rs 1 fun m hm => ?_
       obtain ⟨m, rfl⟩ : ∃ m', m = m' + 1 := ⟨m - 1, by omega⟩
       simp (disch := omega) only [spec_ahGood.l0, if_pos, if_neg, w64]
       simp only [spec_ahGood.j2, Bool.false_eq_true, if_false]
       rw [if_pos hls, if_pos (by simp), if_pos (by simp), hd0, if_neg hbt, tf_f (stop (by simpa using hbt))]
  ·exact out i op hi hlt h
theorem ahGood_any (l : List Int) (hn : l.length < 4611686018427387904) : (∃ K, ∀ k, K ≤ k → spec_ahGood.f k l = some (sysB l)) := by
 unfold sysB
 by_cases h2 : (l.length : Int) % 2 = 1
 ·refine ev_rs 0 fun m hm => ?_
  unfold spec_ahGood.f
  rw [if_pos h2, tf_f]
  ·simp [spec_ahGood.j0]
  ·intro h
   have := h.2.even (by omega)
   omega
 ·by_cases h12 : (l.length : Int) > 12
  ·refine ev_rs 0 fun m hm => ?_
   unfold spec_ahGood.f
   rw [if_neg h2, if_pos h12, tf_f]
   ·simp [spec_ahGood.j0]
   ·intro h; omega
  ·obtain ⟨K, h⟩ := l1All_any l hn 0 ((l.length : Int) - 1)
   by_cases hR : ∀ j : Int, 0 ≤ j → j < (l.length : Int) → 0 ≤ rd l j ∧ rd l j ≤ (l.length : Int) - 1
   ·obtain ⟨K2, h3⟩ := ahGood_l l (by omega) hR l.length 0 [] (by omega) (by omega) (by omega) (by simp) (.inl (.start _))
    refine ev_rs (K + K2) fun m hm => ?_
    unfold spec_ahGood.f
    rw [if_neg h2, if_neg h12, w64 (by omega) (by omega), h (m + 1) (by omega), tf_t hR]
    simp only [Option.bind_some, Bool.not_true, spec_ahGood.j0, Bool.false_eq_true, if_false]
    rw [h3 m (by omega)]
    exact congrArg _ (tf_c ⟨fun h => ⟨by omega, h⟩, fun h => h.2⟩)
   ·refine ev_rs K fun m hm => ?_
    unfold spec_ahGood.f
    rw [if_neg h2, if_neg h12, w64 (by omega) (by omega), h (m + 1) (by omega), tf_f hR, tf_f]
    ·simp [spec_ahGood.j0]
    ·intro s
     exact hR fun j h0 h1 => ⟨s.2.lo j h0 h1, by have := s.2.hi j h0 h1; omega⟩
theorem sysB_mem {l : List Int} (h : sysB l = true) : l.length / 2 < 7 ∧ l ∈ Pl.sysList (l.length / 2) := by
 have := tf_iff.1 h
 exact ⟨by omega, Pl.Sys.mem this.2 this.1⟩
theorem of_table {P : List Int → Bool} (h : ((List.range 7).all fun n => (Pl.sysList n).all P) = true) {l : List Int} (hl : sysB l = true) : P l = true := by
 obtain ⟨h7, hm⟩ := sysB_mem hl
 exact List.all_eq_true.1 (List.all_eq_true.1 h _ (List.mem_range.2 h7)) _ hm
theorem all_chunks {α : Type} (P : α → Bool) (c : Nat) (m : Nat) : ∀ l : List α, l.length ≤ c * m → (∀ i, i < m → ((l.drop (c * i)).take c).all P = true) → l.all P = true := by
 induction m with
 | zero =>
  intro l hl _
  have e : l = [] := List.eq_nil_of_length_eq_zero (by omega)
  subst e; rfl
 | succ m ih =>
  intro l hl h
  rw [← List.take_append_drop c l, List.all_append, Bool.and_eq_true]
  refine ⟨?_, ih _ (by rw [List.length_drop, Nat.mul_succ] at *; omega) fun i hi => ?_⟩
  ·have := h 0 (by omega)
   simpa using this
  ·have := h (i + 1) (by omega)
   rw [List.drop_drop]
   rw [show c * (i + 1) = c + c * i by rw [Nat.mul_succ, Nat.add_comm]] at this
   exact this
theorem len6 : (Pl.sysList 6).length = 132 := by decide +kernel
theorem len5 : (Pl.sysList 5).length = 42 := by decide +kernel
theorem tab_of {P : List Int → Bool} (h : ((List.range 5).all fun n => (Pl.sysList n).all P) = true) (h5 : ∀ i, i < 3 → (((Pl.sysList 5).drop (14 * i)).take 14).all P = true)
  (h6 : ∀ i, i < 6 → (((Pl.sysList 6).drop (22 * i)).take 22).all P = true) : ((List.range 7).all fun n => (Pl.sysList n).all P) = true := by
 rw [List.all_eq_true] at h ⊢
 intro n hn
 have hn := List.mem_range.1 hn
 by_cases h1 : n < 5
 ·exact h n (List.mem_range.2 h1)
 ·by_cases h2 : n = 5
  ·subst h2; exact all_chunks P 14 3 _ (by rw [len5]; omega) h5
  ·have e : n = 6 := by omega
   subst e; exact all_chunks P 22 6 _ (by rw [len6]; omega) h6
def mvd (φ : Int → Int) (l : List Int) : Nat → List Int → Int → List Int
 | 0, out, _ => out
 | d + 1, out, i => mvd φ l d (out.set (φ i).toNat (φ (rd l i))) (i + 1)
theorem mvd_length (φ : Int → Int) (l : List Int) (d : Nat) : ∀ out i, (mvd φ l d out i).length = out.length := by
 induction d with
 | zero => intro out i; rfl
 | succ d ih => intro out i; unfold mvd; rw [ih]; simp
theorem moved_l (Φ : Int → Option Int) (φ : Int → Int) (l : List Int) (hn : l.length < 4611686018427387904) (h1 : ∀ j : Int, 0 ≤ j → j < l.length → Φ j = some (φ j) ∧ 0 ≤ φ j ∧ φ j < l.length) (h2 : ∀ j : Int, 0 ≤ j → j < l.length → Φ (rd l j) = some (φ (rd l j))) (d : Nat) :
  ∀ (out : List Int) (i : Int), 0 ≤ i → (l.length : Int) = i + d → out.length = l.length → (∃ K, ∀ k, K ≤ k → impl_moved.l0 Φ k out l l.length i = some (mvd φ l d out i)) := by
 induction d with
 | zero =>
  intro out i h0 hd ho
  refine ev_rs 0 fun m _ => ?_
  simp (disch := omega) only [impl_moved.l0, if_neg, mvd]
 | succ d ih =>
  intro out i h0 hd ho
  obtain ⟨e1, e2, e3⟩ := h1 i h0 (by omega)
  have e4 := h2 i h0 (by omega)
  obtain ⟨K, ih⟩ := ih (out.set (φ i).toNat (φ (rd l i))) (i + 1) (by omega) (by omega) (by simpa using ho)
  refine ev_rs K fun m hm => ?_
  simp (disch := omega) only [impl_moved.l0, if_pos, e1, e4, Option.bind_some, w64, mvd]
  exact ih m hm
theorem moved_any (Φ : Int → Option Int) (φ : Int → Int) (l : List Int) (hn : l.length ≤ 35184372088832) (h1 : ∀ j : Int, 0 ≤ j → j < l.length → Φ j = some (φ j) ∧ 0 ≤ φ j ∧ φ j < l.length) (h2 : ∀ j : Int, 0 ≤ j → j < l.length → Φ (rd l j) = some (φ (rd l j))) :
  (∃ K, ∀ k, K ≤ k → impl_moved.f Φ k l = some (mvd φ l l.length (List.replicate l.length 0) 0)) := by
 obtain ⟨K, h⟩ := moved_l Φ φ l (by omega) h1 h2 l.length (List.replicate l.length 0) 0 (by omega) (by omega) (by simp)
 refine ⟨K, fun k hk => ?_⟩
 unfold impl_moved.f
 rw [if_pos (by omega), if_pos (by simpa using hn)]
 simpa using h k hk
def turnP (n a x : Int) : Int := Int.tmod (wrap64 ((Int.tmod (wrap64 (x + a)) n) + n)) n
theorem turnP_ok {n a x : Int} (h0 : 0 < n) (hn : n ≤ 4611686018427387904) : 0 ≤ turnP n a x ∧ turnP n a x < n := by
 unfold turnP
 have h1 := Int.tmod_lt_of_pos (wrap64 (x + a)) h0
 have h2 := Int.lt_tmod_of_pos (wrap64 (x + a)) h0
 rw [w64 (x := Int.tmod (wrap64 (x + a)) n + n) (by omega) (by omega)]
 exact ⟨Int.tmod_nonneg _ (by omega), Int.tmod_lt_of_pos _ h0⟩
def turnL (l : List Int) (a : Int) : List Int := mvd (turnP l.length a) l l.length (List.replicate l.length 0) 0
theorem turned_any (l : List Int) (a : Int) (hn : l.length ≤ 35184372088832) : (∃ K, ∀ k, K ≤ k → impl_turned.f k l a = some (turnL l a)) := by
 refine moved_any (impl_turned.phi l.length a) (turnP l.length a) l hn (fun j h0 h1 => ?_) (fun j h0 h1 => ?_)
 ·refine ⟨?_, turnP_ok (by omega) (by omega)⟩
  unfold impl_turned.phi impl_rest.f
  rw [if_neg (by omega)]; rfl
 ·unfold impl_turned.phi impl_rest.f
  rw [if_neg (by omega)]; rfl
theorem specTurn_l (l : List Int) (a : Int) (hn : l.length < 4611686018427387904) (d : Nat) :
  ∀ (out : List Int) (i : Int), 0 ≤ i → (l.length : Int) = i + d → out.length = l.length → (∃ K, ∀ k, K ≤ k → spec_TurnSystem.l0 k a l.length out l l.length i = some ((mvd (turnP l.length a) l d out i, true))) := by
 induction d with
 | zero =>
  intro out i h0 hd ho
  refine ev_rs 0 fun m _ => ?_
  simp (disch := omega) only [spec_TurnSystem.l0, if_neg, mvd]
 | succ d ih =>
  intro out i h0 hd ho
  have e := @turnP_ok l.length a i (by omega) (by omega)
  obtain ⟨K, ih⟩ := ih (out.set (turnP l.length a i).toNat (turnP l.length a (rd l i))) (i + 1) (by omega) (by omega) (by simpa using ho)
  refine ev_rs K fun m hm => ?_
  have ih := ih m hm
  have e1 : Int.tmod (wrap64 ((Int.tmod (wrap64 (i + a)) l.length) + l.length)) l.length = turnP l.length a i := rfl
  have e2 : Int.tmod (wrap64 ((Int.tmod (wrap64 (rd l i + a)) l.length) + l.length)) l.length = turnP l.length a (rd l i) := rfl
  simp only [spec_TurnSystem.l0, mvd]
  rw [e1, e2]
  simp (disch := omega) only [if_pos, if_neg]
  rw [w64 (x := i + 1) (by omega) (by omega)]
  exact ih
noncomputable def turnR (l : List Int) (a : Int) : List Int × Bool := if sysB l = true ∧ (-100 ≤ a ∧ a ≤ 100) then (turnL l a, true) else ([], false)
theorem specTurn_any (l : List Int) (a : Int) (hn : l.length ≤ 35184372088832) : (∃ K, ∀ k, K ≤ k → spec_TurnSystem.f k l a = some (turnR l a)) := by
 obtain ⟨K1, h1⟩ := ahGood_any l (by omega)
 obtain ⟨K2, h2⟩ := specTurn_l l a (by omega) l.length (List.replicate l.length 0) 0 (by omega) (by omega) (by simp)
 refine ev_rs (K1 + K2) fun m hm => ?_
 simp (disch := omega) only [spec_TurnSystem.f, l1In_any, h1, Option.bind_some, turnR, spec_TurnSystem.j0]
 cases sysB l
 ·simp
 ·by_cases h : -100 ≤ a ∧ a ≤ 100
  ·simp only [h, and_self, decide_true, if_true, Bool.not_true, Bool.false_eq_true, if_false]
   rw [if_pos (by omega), if_pos (by simpa using hn)]
   simpa [turnL] using h2 m (by omega)
  ·simp [h]
theorem turnR_length (l : List Int) (a : Int) : (turnR l a).1.length ≤ l.length := by
 unfold turnR
 split
 ·simp [turnL, mvd_length]
 ·simp
theorem implTurn_any (l : List Int) (a : Int) (hn : l.length ≤ 35184372088832) : (∃ K, ∀ k, K ≤ k → impl_TurnSystem.f k l a = some (turnR l a)) := by
 obtain ⟨K1, h1⟩ := IsSystem_any l (by omega)
 obtain ⟨K2, h2⟩ := turned_any l a hn
 refine ⟨K1 + K2, fun k hk => ?_⟩
 simp (disch := omega) only [impl_TurnSystem.f, impl_isTurn.f, in_any, h1, h2, Option.bind_some, turnR]
 cases sysB l <;> by_cases h : -100 ≤ a ∧ a ≤ 100 <;> simp [h]
theorem turnP_eq {n a x : Int} (h0 : 0 < n) (hn : n ≤ 12) (ha : -200 ≤ a ∧ a ≤ 200) (hx : 0 ≤ x ∧ x < n) : turnP n a x = (x + a) % n := by
 unfold turnP
 rw [w64 (x := x + a) (by omega) (by omega)]
 have h1 := Int.tmod_lt_of_pos (x + a) h0
 have h2 := Int.lt_tmod_of_pos (x + a) h0
 rw [w64 (x := Int.tmod (x + a) n + n) (by omega) (by omega), Int.tmod_eq_emod_of_nonneg (by omega), Int.add_emod_right]
 have h3 := Int.tmod_add_mul_tdiv (x + a) n
 generalize Int.tmod (x + a) n = t at h3 ⊢
 rw [← h3, Int.add_mul_emod_self_left]
theorem turnP_mod {n a x : Int} (h0 : 0 < n) (hn : n ≤ 12) (ha : -200 ≤ a ∧ a ≤ 200) (hx : 0 ≤ x ∧ x < n) : turnP n a x = turnP n (a % n) x := by
 have m0 := Int.emod_nonneg a (show n ≠ 0 by omega)
 have m1 := Int.emod_lt_of_pos a h0
 rw [turnP_eq h0 hn ha hx, turnP_eq h0 hn (by omega) hx, Int.add_emod x (a % n), Int.emod_emod, ← Int.add_emod]
theorem mvd_congr (φ ψ : Int → Int) (l : List Int) (d : Nat) : ∀ out i, (∀ j : Int, i ≤ j → j < i + d → φ j = ψ j ∧ φ (rd l j) = ψ (rd l j)) → mvd φ l d out i = mvd ψ l d out i := by
 induction d with
 | zero => intro out i h; rfl
 | succ d ih =>
  intro out i h
  unfold mvd
  have e := h i (by omega) (by omega)
  rw [e.1, e.2]
  exact ih _ _ (fun j h1 h2 => h j (by omega) (by omega))
theorem sysB_rd0 {l : List Int} (h : sysB l = true) : l.length ≤ 12 ∧ ∀ j : Int, 0 ≤ j → j < l.length → 0 ≤ rd l j ∧ rd l j < (l.length : Nat) := by
 have h := tf_iff.1 h
 exact ⟨h.1, fun j h0 h1 => ⟨h.2.lo j h0 h1, h.2.hi j h0 h1⟩⟩
theorem turnL_mod {l : List Int} (hB : sysB l = true) {a : Int} (ha : -200 ≤ a ∧ a ≤ 200) : turnL l a = turnL l (a % l.length) := by
 obtain ⟨hl, hr⟩ := sysB_rd0 hB
 unfold turnL
 by_cases h0 : l.length = 0
 ·rw [h0]; rfl
 ·refine mvd_congr _ _ l _ _ _ fun j h1 h2 => ⟨turnP_mod (by omega) (by omega) ha (by omega), turnP_mod (by omega) (by omega) ha (by have := hr j h1 (by omega); omega)⟩
def turnBack (p : List Int) (r : Nat) : Bool := (impl_IsSystem.f 200 (turnL p r) == some true) && (turnL (turnL p r) (((p.length : Int) - r) % p.length) == p) && decide ((turnL p r).length = p.length)
def turnBack_table_P : List Int → Bool := fun p => (turnL p 0 == p) && (turnBack p 0) && ((List.range p.length).all fun r => turnBack p r)
theorem turnBack_table_4 : ((List.range 5).all fun n => (Pl.sysList n).all turnBack_table_P) = true := by decide +kernel
theorem turnBack_table_5_0 : (((Pl.sysList 5).drop (14 * 0)).take 14).all turnBack_table_P = true := by decide +kernel
theorem turnBack_table_5_1 : (((Pl.sysList 5).drop (14 * 1)).take 14).all turnBack_table_P = true := by decide +kernel
theorem turnBack_table_5_2 : (((Pl.sysList 5).drop (14 * 2)).take 14).all turnBack_table_P = true := by decide +kernel
theorem turnBack_table_6_0 : (((Pl.sysList 6).drop (22 * 0)).take 22).all turnBack_table_P = true := by decide +kernel
theorem turnBack_table_6_1 : (((Pl.sysList 6).drop (22 * 1)).take 22).all turnBack_table_P = true := by decide +kernel
theorem turnBack_table_6_2 : (((Pl.sysList 6).drop (22 * 2)).take 22).all turnBack_table_P = true := by decide +kernel
theorem turnBack_table_6_3 : (((Pl.sysList 6).drop (22 * 3)).take 22).all turnBack_table_P = true := by decide +kernel
theorem turnBack_table_6_4 : (((Pl.sysList 6).drop (22 * 4)).take 22).all turnBack_table_P = true := by decide +kernel
theorem turnBack_table_6_5 : (((Pl.sysList 6).drop (22 * 5)).take 22).all turnBack_table_P = true := by decide +kernel
theorem turnBack_table : ((List.range 7).all fun n => (Pl.sysList n).all turnBack_table_P) = true := by
 refine tab_of turnBack_table_4 (fun i hi => ?_) (fun i hi => ?_)
 ·match i, hi with
  | 0, _ => exact turnBack_table_5_0
  | 1, _ => exact turnBack_table_5_1
  | 2, _ => exact turnBack_table_5_2
 ·match i, hi with
  | 0, _ => exact turnBack_table_6_0
  | 1, _ => exact turnBack_table_6_1
  | 2, _ => exact turnBack_table_6_2
  | 3, _ => exact turnBack_table_6_3
  | 4, _ => exact turnBack_table_6_4
  | 5, _ => exact turnBack_table_6_5
theorem turnBack_any {l : List Int} (hB : sysB l = true) {a : Int} (ha : -100 ≤ a ∧ a ≤ 100) : sysB (turnL l a) = true ∧ turnL (turnL l a) (-a) = l ∧ turnL l l.length = l := by
 obtain ⟨hl, hr⟩ := sysB_rd0 hB
 have t := of_table turnBack_table hB
 unfold turnBack_table_P at t
 simp only [Bool.and_eq_true, beq_iff_eq] at t
 obtain ⟨⟨t0, tz⟩, t1⟩ := t
 by_cases h0 : l.length = 0
 ·have e : l = [] := List.eq_nil_of_length_eq_zero h0
  subst e
  exact ⟨hB, rfl, rfl⟩
 ·have m0 := Int.emod_nonneg a (show (l.length : Int) ≠ 0 by omega)
  have m1 := Int.emod_lt_of_pos a (show (0 : Int) < l.length by omega)
  have hr := List.all_eq_true.1 t1 (a % (l.length : Int)).toNat (List.mem_range.2 (by omega))
  unfold turnBack at hr
  rw [show (((a % (l.length : Int)).toNat : Nat) : Int) = a % (l.length : Int) by omega] at hr
  simp only [Bool.and_eq_true, beq_iff_eq, decide_eq_true_eq] at hr
  obtain ⟨⟨r1, r2⟩, r3⟩ := hr
  have e1 := turnL_mod hB (a := a) (by omega)
  rw [← e1] at r1 r2 r3
  obtain ⟨K, hK⟩ := IsSystem_any (turnL l a) (by omega)
  have hq : sysB (turnL l a) = true := by
   have q1 := at_rounds (g := fun k => impl_IsSystem.f k (turnL l a)) (fun k => impl_IsSystem.mono _ k) (show 200 ≤ K + 200 by omega) r1
   have q2 := hK (K + 200) (by omega)
   exact Option.some.inj (q2.symm.trans q1)
  refine ⟨hq, ?_, ?_⟩
  ·rw [turnL_mod hq (a := -a) (by omega), r3]
   have e2 : (-a) % (l.length : Int) = ((l.length : Int) - a % l.length) % l.length := by
    rw [Int.sub_emod, Int.emod_self, Int.emod_emod, ← Int.zero_emod (l.length : Int), ← Int.sub_emod, Int.zero_sub]
   rw [e2]
   exact r2
  ·rw [turnL_mod hB (a := (l.length : Int)) (by omega), Int.emod_self]
   exact t0
def shiftL (l : List Int) (a : Int) : Nat → List Int → Int → List Int
 | 0, out, _ => out
 | d + 1, out, i => shiftL l a d (out ++ [wrap64 (rd l i + a)]) (i + 1)
theorem shiftL_length (l : List Int) (a : Int) (d : Nat) : ∀ out i, (shiftL l a d out i).length = out.length + d := by
 induction d with
 | zero => intro out i; rfl
 | succ d ih => intro out i; unfold shiftL; rw [ih]; simp; omega
theorem shiftL_app (l : List Int) (a : Int) (d : Nat) : ∀ (out : List Int) i, shiftL l a d out i = out ++ shiftL l a d [] i := by
 induction d with
 | zero => intro out i; simp [shiftL]
 | succ d ih => intro out i; unfold shiftL; rw [ih, ih ([] ++ _)]; simp
theorem joined_l (a l : List Int) (hl : l.length ≤ 1048576) (d : Nat) : ∀ (out : List Int) (i : Int), 0 ≤ i → (l.length : Int) = i + d → out.length + d ≤ 4194304 → (∃ K, ∀ k, K ≤ k → impl_joined.l0 k a out l l.length i = some (shiftL l a.length d out i)) := by
 induction d with
 | zero =>
  intro out i h0 hd ho
  refine ev_rs 0 fun m _ => ?_
  simp (disch := omega) only [impl_joined.l0, if_neg, shiftL]
 | succ d ih =>
  intro out i h0 hd ho
  obtain ⟨K, ih⟩ := ih (out ++ [wrap64 (rd l i + a.length)]) (i + 1) (by omega) (by omega) (by simp; omega)
  refine ev_rs K fun m hm => ?_
  simp only [impl_joined.l0, shiftL]
  rw [w64 (x := i + 1) (by omega) (by omega), if_pos (by omega), if_pos h0, if_pos (by omega), if_pos (by omega)]
  exact ih m hm
theorem ahShift_l (l : List Int) (a : Int) (hl : l.length ≤ 1048576) (d : Nat) : ∀ (out : List Int) (i : Int), 0 ≤ i → (l.length : Int) = i + d → out.length + d ≤ 4194304 → (∃ K, ∀ k, K ≤ k → spec_ahShift.l0 k a out l l.length i = some (shiftL l a d out i)) := by
 induction d with
 | zero =>
  intro out i h0 hd ho
  refine ev_rs 0 fun m _ => ?_
  simp (disch := omega) only [spec_ahShift.l0, if_neg, shiftL]
 | succ d ih =>
  intro out i h0 hd ho
  obtain ⟨K, ih⟩ := ih (out ++ [wrap64 (rd l i + a)]) (i + 1) (by omega) (by omega) (by simp; omega)
  refine ev_rs K fun m hm => ?_
  simp only [spec_ahShift.l0, shiftL]
  rw [w64 (x := i + 1) (by omega) (by omega), if_pos (by omega), if_pos h0, if_pos (by omega), if_pos (by omega)]
  exact ih m hm
def joinL (a b : List Int) : List Int := a ++ shiftL b a.length b.length [] 0
theorem joinL_length (a b : List Int) : (joinL a b).length = a.length + b.length := by unfold joinL; simp [shiftL_length]
theorem joined_any (a b : List Int) (ha : a.length ≤ 1048576) (hb : b.length ≤ 1048576) : (∃ K, ∀ k, K ≤ k → impl_joined.f k a b = some (joinL a b)) := by
 obtain ⟨K, h⟩ := joined_l a b hb b.length a 0 (by omega) (by omega) (by omega)
 refine ⟨K, fun k hk => ?_⟩
 unfold impl_joined.f slices_Clone_int_int.f joinL
 rw [← shiftL_app]
 simp only [Option.bind_some, List.nil_append]
 rw [if_pos (by simp; omega), Option.bind_some]
 exact h k hk
theorem ahShift_any (a : Int) (b : List Int) (hb : b.length ≤ 1048576) : (∃ K, ∀ k, K ≤ k → spec_ahShift.f k b a = some (shiftL b a b.length [] 0)) := by
 obtain ⟨K, h⟩ := ahShift_l b a hb b.length [] 0 (by omega) (by omega) (by simp; omega)
 exact ⟨K, fun k hk => h k hk⟩
noncomputable def joinR (a b : List Int) : List Int × Bool := if sysB a = true ∧ sysB b = true ∧ ¬ (a.length : Int) + b.length > 12 then (joinL a b, true) else ([], false)
theorem joinR_length (a b : List Int) : (joinR a b).1.length ≤ 12 := by
 unfold joinR
 split
 ·simp only [joinL_length]; omega
 ·simp
theorem implJoin_any (a b : List Int) (ha : a.length ≤ 1048576) (hb : b.length ≤ 1048576) : (∃ K, ∀ k, K ≤ k → impl_JoinSystems.f k a b = some (joinR a b)) := by
 obtain ⟨K1, h1⟩ := IsSystem_any a (by omega)
 obtain ⟨K2, h2⟩ := IsSystem_any b (by omega)
 obtain ⟨K3, h3⟩ := joined_any a b ha hb
 refine ⟨K1 + K2 + K3, fun k hk => ?_⟩
 simp (disch := omega) only [impl_JoinSystems.f, h1, h2, h3, w64, Option.bind_some, joinR]
 cases sysB a <;> cases sysB b <;> by_cases h : (a.length : Int) + b.length > 12 <;> simp [h]
theorem specJoin_any (a b : List Int) (ha : a.length ≤ 1048576) (hb : b.length ≤ 1048576) : (∃ K, ∀ k, K ≤ k → spec_JoinSystems.f k a b = some (joinR a b)) := by
 obtain ⟨K1, h1⟩ := ahGood_any a (by omega)
 obtain ⟨K2, h2⟩ := ahGood_any b (by omega)
 obtain ⟨K3, h3⟩ := ahShift_any a.length b hb
 have hl := shiftL_length b a.length b.length [] 0
 refine ev_rs (K1 + K2 + K3) fun m hm => ?_
 simp (disch := omega) only [spec_JoinSystems.f, h1, h2, w64, Option.bind_some, joinR, spec_JoinSystems.j0]
 cases sysB a <;> cases sysB b <;> by_cases h : (a.length : Int) + b.length > 12 <;> simp [h]
 simp only [spec_l1Own.f, Option.bind_some, List.nil_append]
 rw [if_pos (by simp; omega), Option.bind_some, h3 m (by omega), Option.bind_some, if_pos (by simp at hl; omega)]
 rfl
def pz : Nat → ByteArray → List Int → List Int → Int → Option (List Int × List Int)
 | 0, _, out, op, _ => some (out, op)
 | d + 1, s, out, op, i =>
  if bt s i = 40 then pz d s out (op ++ [i]) (i + 1)
  else if bt s i = 41 ∧ (op.length : Int) > 0 then
   pz d s ((out.set (rd op ((op.length : Int) - 1)).toNat i).set i.toNat (rd op ((op.length : Int) - 1))) (op.take (op.length - 1)) (i + 1)
  else none
def OpenOk (op : List Int) (i : Int) : Prop := (∀ x ∈ op, 0 ≤ x ∧ x < i) ∧ (op.length : Int) ≤ i
theorem OpenOk.push {op : List Int} {i : Int} (h : OpenOk op i) (h0 : 0 ≤ i) : OpenOk (op ++ [i]) (i + 1) := by
 refine ⟨fun x hx => ?_, by simp; exact h.2⟩
 rcases List.mem_append.1 hx with hx | hx
 ·have := h.1 x hx; omega
 ·have : x = i := by simpa using hx
  omega
theorem OpenOk.pop {op : List Int} {i : Int} (h : OpenOk op i) : OpenOk (op.take (op.length - 1)) (i + 1) := by
 refine ⟨fun x hx => ?_, by simp; have := h.2; omega⟩
 have := h.1 x (List.mem_of_mem_take hx); omega
theorem OpenOk.last {op : List Int} {i : Int} (h : OpenOk op i) (hl : (op.length : Int) > 0) : 0 ≤ rd op ((op.length : Int) - 1) ∧ rd op ((op.length : Int) - 1) < i :=
 h.1 _ (rd_mem op _ (by omega) (by omega))
def pzOut : Option (List Int × List Int) → List Int × Bool
 | none => ([], false)
 | some (o, op) => if op.length = 0 then (o, true) else ([], false)
theorem pz_length (s : ByteArray) (d : Nat) : ∀ (out op : List Int) (i : Int) o p, pz d s out op i = some (o, p) → o.length = out.length := by
 induction d with
 | zero => intro out op i o p h; simp [pz] at h; rw [h.1]
 | succ d ih =>
  intro out op i o p h
  unfold pz at h
  split at h
  ·exact ih _ _ _ _ _ h
  ·split at h
   ·have := ih _ _ _ _ _ h
    simpa using this
   ·cases h
theorem ahParse_l (s : ByteArray) (hs : s.size ≤ 1048576) (d : Nat) : ∀ (out op : List Int) (i : Int), 0 ≤ i → (s.size : Int) = i + d → out.length = s.size → OpenOk op i →
  (∃ K, ∀ k, K ≤ k → spec_ahParse.l0 k s out op i = some (pzOut (pz d s out op i))) := by
 induction d with
 | zero =>
  intro out op i h0 hd ho hop
  refine ev_rs 0 fun m _ => ?_
  simp (disch := omega) only [spec_ahParse.l0, if_neg, pz, pzOut]
  by_cases h : (op.length : Int) > 0
  ·rw [if_pos h, if_neg (by omega)]
  ·rw [if_neg h, if_pos (by omega)]
 | succ d ih =>
  intro out op i h0 hd ho hop
  have hol := hop.2
  by_cases h40 : bt s i = 40
  ·obtain ⟨K, ih⟩ := ih out (op ++ [i]) (i + 1) (by omega) (by omega) ho (hop.push h0)
   refine ev_rs K fun m hm => ?_
   simp (disch := omega) only [spec_ahParse.l0, if_pos, if_neg, w64, pz]
   exact ih m hm
  ·by_cases h41 : bt s i = 41 ∧ (op.length : Int) > 0
   ·obtain ⟨g0, g1⟩ := hop.last h41.2
    obtain ⟨K, ih⟩ := ih ((out.set (rd op ((op.length : Int) - 1)).toNat i).set i.toNat (rd op ((op.length : Int) - 1))) (op.take (op.length - 1)) (i + 1) (by omega) (by omega) (by simpa using ho) hop.pop
    refine ev_rs K fun m hm => ?_
    have e : ((op.length : Int) - 1).toNat = op.length - 1 := by omega
    simp (disch := omega) only [spec_ahParse.l0, if_pos, if_neg, w64, pz]
    rw [e]
    exact ih m hm
   ·refine ev_rs 0 fun m hm => ?_
    simp (disch := omega) only [spec_ahParse.l0, if_pos, if_neg, w64, pz, pzOut]
    simp
theorem ahParse_any (s : ByteArray) (hs : s.size ≤ 1048576) : (∃ K, ∀ k, K ≤ k → spec_ahParse.f k s = some (if (s.size : Int) > 12 then ([], false) else pzOut (pz s.size s (List.replicate s.size 0) [] 0))) := by
 obtain ⟨K, h⟩ := ahParse_l s hs s.size (List.replicate s.size 0) [] 0 (by omega) (by omega) (by simp) ⟨by simp, by simp⟩
 refine ⟨K, fun k hk => ?_⟩
 unfold spec_ahParse.f
 split
 ·rfl
 ·rw [if_pos (by omega), if_pos (by omega)]
  simpa using h k hk
def parsed (s : ByteArray) : List Int × Bool := if (s.size : Int) > 12 then ([], false) else pzOut (pz s.size s (List.replicate s.size 0) [] 0)
theorem parsed_length (s : ByteArray) : (parsed s).1.length ≤ 12 := by
 unfold parsed
 split
 ·simp
 ·cases h : pz s.size s (List.replicate s.size 0) [] 0 with
  | none => simp [pzOut]
  | some x =>
   have := pz_length _ _ _ _ _ _ _ h
   unfold pzOut
   simp only
   split
   ·simp at this; simp; omega
   ·simp
theorem sSame_l (a : List Int) (hn : a.length < 4611686018427387904) (d : Nat) : ∀ i : Int, 0 ≤ i → (a.length : Int) - i ≤ d → (∃ K, ∀ k, K ≤ k → laws_sSame.l0 k a a (a.length : Int) i = some (true)) := by
 induction d with
 | zero =>
  intro i h0 hd
  refine ev_rs 0 fun m _ => ?_
  simp (disch := omega) only [laws_sSame.l0, if_neg]
 | succ d ih =>
  intro i h0 hd
  by_cases hlt : i < (a.length : Int)
  ·obtain ⟨K, ih⟩ := ih (i + 1) (by omega) (by omega)
   refine ev_rs K fun m hm => ?_
   simp (disch := omega) only [laws_sSame.l0, if_pos, w64, ih m hm, if_true]
  ·refine ev_rs 0 fun m _ => ?_
   simp (disch := omega) only [laws_sSame.l0, if_neg]
theorem sSame_any (a : List Int) (hn : a.length ≤ 35184372088832) : (∃ K, ∀ k, K ≤ k → laws_sSame.f k a a = some (true)) := by
 obtain ⟨K, h⟩ := sSame_l a (by omega) a.length 0 (by omega) (by omega)
 refine ⟨K, fun k hk => ?_⟩
 unfold laws_sSame.f
 rw [if_pos rfl, h k hk]
theorem big_any (a b : List Int) (ha : a.length ≤ 1048576) (hb : (b.length : Int) ≤ 1048576 - a.length) : laws_big.f a b = some false := by
 unfold laws_big.f
 rw [if_neg (by omega), w64 (by omega) (by omega)]
 congr 1
 exact decide_eq_false (by omega)
theorem big_yes (a b : List Int) (h : ¬ (a.length ≤ 1048576 ∧ (b.length : Int) ≤ 1048576 - a.length)) : laws_big.f a b = some true := by
 unfold laws_big.f
 by_cases h1 : (a.length : Int) > 1048576
 ·rw [if_pos h1]
 ·rw [if_neg h1, w64 (by omega) (by omega)]
  congr 1
  exact decide_eq_true (by omega)
theorem wrap_u64 (n : Int) : IntKind.u64.wrap n = n % 18446744073709551616 := by simp [IntKind.wrap, IntKind.bits, IntKind.signed]
theorem and255 (y : Int) : 0 ≤ Go.bits .and .u64 ((IntKind.u64.wrap y) / 1099511627776) 255 ∧ Go.bits .and .u64 ((IntKind.u64.wrap y) / 1099511627776) 255 < 256 := by
 rw [wrap_u64]
 have h := Go.bits_mask .u64 64 (by decide) (fun n h0 h1 => by rw [wrap_u64]; omega) 8 (by decide) (y % 18446744073709551616 / 1099511627776) (by omega) (by omega)
 rw [show (2 : Int) ^ 8 - 1 = 255 by decide, show (2 : Int) ^ 8 = 256 by decide] at h
 rw [h]; omega
def Bys (c : List Int) : Prop := c.length ≤ 1048576 ∧ ∀ x ∈ c, 0 ≤ x ∧ x < 256
theorem bys_of {c : List Int} (hl : c.length ≤ 1048576) (h : ∀ x ∈ c, (Lit.int .u8 x).wf = true) : Bys c := by
 refine ⟨hl, fun x hx => ?_⟩
 have := h x hx
 simp [Lit.wf, IntKind.min, IntKind.max, IntKind.bits, IntKind.signed] at this
 omega
theorem bindE {α β : Type} {x : Option α} {f : α → Option β} {a : α} {r : Option β} (h : x = some a) (h2 : f a = r) : x.bind f = r := by rw [h]; exact h2
theorem next_any {c : List Int} (hc : Bys c) (a s : Int) (h0 : 0 ≤ a) (h1 : a ≤ 4000000000000000000) : ∃ r s', spec_l1Cur_next.f c a s = some (r, a + 1, s') ∧ 0 ≤ r ∧ r < 256 := by
 have hl := hc.1
 unfold spec_l1Cur_next.f
 rw [w64 (x := a + 1) (by omega) (by omega)]
 by_cases h : a < (c.length : Int)
 ·have hm := hc.2 _ (rd_mem c a h0 h)
  rw [if_pos h, if_pos h0, if_pos (by omega), w64 (x := rd c a) (by omega) (by omega)]
  exact ⟨_, _, rfl, hm.1, hm.2⟩
 ·rw [if_neg h, if_neg (by omega)]
  refine ⟨_, _, rfl, ?_⟩
  have hb := and255 (IntKind.u64.wrap (IntKind.u64.wrap (s * 6364136223846793005)) + 1442695040888963407)
  rw [w64 (by omega) (by omega)]
  exact hb
theorem pick_any {c : List Int} (hc : Bys c) (a s n : Int) (h0 : 0 ≤ a) (h1 : a ≤ 4000000000000000000) (hn : 1 ≤ n) (hn2 : n ≤ 200) :
  ∃ r a' s', spec_l1Cur_pick.f c a s n = some (r, a', s') ∧ 0 ≤ r ∧ r < n ∧ a ≤ a' ∧ a' ≤ a + 1 := by
 unfold spec_l1Cur_pick.f
 by_cases h : n ≤ 1
 ·rw [if_pos h]; exact ⟨0, a, s, rfl, by omega, by omega, by omega, by omega⟩
 ·obtain ⟨r, s', e, hr0, hr1⟩ := next_any hc a s h0 h1
  rw [if_neg h, e, Option.bind_some, if_neg (by omega), if_neg (by omega)]
  refine ⟨Int.tmod r n, a + 1, s', rfl, ?_, ?_, by omega, by omega⟩
  ·exact Int.tmod_nonneg _ hr0
  ·exact Int.tmod_lt_of_pos _ (by omega)
theorem one_any {c : List Int} (hc : Bys c) (a s n : Int) (h0 : 0 ≤ a) (h1 : a ≤ 4000000000000000000) (hn : 1 ≤ n) (hn2 : n ≤ 200) :
  ∃ r a' s', spec_l1Cur_one.f c a s n = some (r, a', s') ∧ a ≤ a' ∧ a' ≤ a + 1 := by
 obtain ⟨r, a', s', e, _, _, h2, h3⟩ := pick_any hc a s n h0 h1 hn hn2
 unfold spec_l1Cur_one.f
 rw [e, Option.bind_some]
 exact ⟨_, _, _, rfl, h2, h3⟩
theorem size_push1 (t : ByteArray) (b : UInt8) : (t ++ (⟨#[b]⟩ : ByteArray)).size = t.size + 1 := by rw [ByteArray.size_append]; rfl
theorem sure_l {c : List Int} (hc : Bys c) (n : Int) (hn0 : 0 ≤ n) (hn : n ≤ 6) (d : Nat) : ∀ (t : ByteArray) (o lf i a s : Int), 0 ≤ i → i ≤ 2 * n → 2 * n - i ≤ d → (t.size : Int) = i → -i ≤ o → o ≤ i →
  0 ≤ lf → lf ≤ n → 0 ≤ a → a + (2 * n - i) ≤ 4000000000000000000 →
  ∃ p a' s', (∃ K, ∀ k, K ≤ k → spec_l1Cur_sure.l0 k n t o lf i c a s = some ((p, a', s'))) ∧ p.length ≤ 12 ∧ a ≤ a' ∧ a' ≤ a + (2 * n - i) := by
 have fin : ∀ (t : ByteArray) (o lf i a s : Int), i = 2 * n → (t.size : Int) = i → ∃ p a' s', (∃ K, ∀ k, K ≤ k → spec_l1Cur_sure.l0 k n t o lf i c a s = some ((p, a', s'))) ∧ p.length ≤ 12 ∧ a ≤ a' ∧ a' ≤ a + (2 * n - i) := by
  intro t o lf i a s hi ht
  obtain ⟨K, h⟩ := ahParse_any t (by omega)
  refine ⟨_, a, s, ev_rs K fun m hm => ?_, parsed_length t, by omega, by omega⟩
  rw [← parsed] at h
  simp (disch := omega) only [spec_l1Cur_sure.l0, if_neg, w64, h m hm, Option.bind_some]
 induction d with
 | zero => intro t o lf i a s hi0 hi hd ht ho1 ho2 hl0 hl1 ha hb; exact fin t o lf i a s (by omega) ht
 | succ d ih =>
  intro t o lf i a s hi0 hi hd ht ho1 ho2 hl0 hl1 ha hb
  by_cases hlt : i < 2 * n
  ·by_cases hp : lf > 0
   ·by_cases hz : o = 0
    ·obtain ⟨p, a', s', ⟨K, h⟩, q1, q2, q3⟩ := ih (t ++ (⟨#[40]⟩ : ByteArray)) (o + 1) (lf - 1) (i + 1) a s (by omega) (by omega) (by omega) (by rw [size_push1]; omega) (by omega) (by omega) (by omega) (by omega) ha (by omega)
     refine ⟨p, a', s', ev_rs K fun m hm => ?_, q1, q2, by omega⟩
     simp (disch := omega) only [spec_l1Cur_sure.l0, if_pos, w64]
     exact h m hm
    ·obtain ⟨b, a1, s1, e, q4, q5⟩ := one_any hc a s 2 ha (by omega) (by omega) (by omega)
     cases b with
     | true =>
      obtain ⟨p, a', s', ⟨K, h⟩, q1, q2, q3⟩ := ih (t ++ (⟨#[40]⟩ : ByteArray)) (o + 1) (lf - 1) (i + 1) a1 s1 (by omega) (by omega) (by omega) (by rw [size_push1]; omega) (by omega) (by omega) (by omega) (by omega) (by omega) (by omega)
      refine ⟨p, a', s', ev_rs K fun m hm => ?_, q1, by omega, by omega⟩
      simp (disch := omega) only [spec_l1Cur_sure.l0, if_pos, if_neg, w64, e, Option.bind_some]
      exact h m hm
     | false =>
      obtain ⟨p, a', s', ⟨K, h⟩, q1, q2, q3⟩ := ih (t ++ (⟨#[41]⟩ : ByteArray)) (o - 1) lf (i + 1) a1 s1 (by omega) (by omega) (by omega) (by rw [size_push1]; omega) (by omega) (by omega) (by omega) (by omega) (by omega) (by omega)
      refine ⟨p, a', s', ev_rs K fun m hm => ?_, q1, by omega, by omega⟩
      simp (disch := omega) only [spec_l1Cur_sure.l0, if_pos, if_neg, w64, e, Option.bind_some, Bool.false_eq_true, if_false]
      exact h m hm
   ·obtain ⟨p, a', s', ⟨K, h⟩, q1, q2, q3⟩ := ih (t ++ (⟨#[41]⟩ : ByteArray)) (o - 1) lf (i + 1) a s (by omega) (by omega) (by omega) (by rw [size_push1]; omega) (by omega) (by omega) (by omega) (by omega) ha (by omega)
    refine ⟨p, a', s', ev_rs K fun m hm => ?_, q1, q2, by omega⟩
    simp (disch := omega) only [spec_l1Cur_sure.l0, if_pos, if_neg, w64]
    exact h m hm
  ·exact fin t o lf i a s (by omega) ht
theorem sure_any {c : List Int} (hc : Bys c) (a s n : Int) (h0 : 0 ≤ a) (h1 : a ≤ 3000000000000000000) (hn0 : 0 ≤ n) (hn : n ≤ 6) :
  ∃ p a' s', (∃ K, ∀ k, K ≤ k → spec_l1Cur_sure.f k c a s n = some ((p, a', s'))) ∧ p.length ≤ 12 ∧ a ≤ a' ∧ a' ≤ a + 12 := by
 obtain ⟨p, a', s', h, q1, q2, q3⟩ := sure_l hc n hn0 hn (2 * n).toNat (⟨#[]⟩ : ByteArray) 0 n 0 a s (by omega) (by omega) (by omega) rfl (by omega) (by omega) hn0 (by omega) h0 (by omega)
 exact ⟨p, a', s', h, q1, q2, by omega⟩
theorem flat_draw : ((List.range 8).all fun n => match spec_ahFlat.f 60 (n : Nat) with | some l => decide (l.length ≤ 14) | none => false) = true := by decide +kernel
theorem rainbow_draw : ((List.range 8).all fun n => match spec_ahRainbow.f 60 (n : Nat) with | some l => decide (l.length ≤ 14) | none => false) = true := by decide +kernel
theorem flat_d (n : Int) (h0 : 0 ≤ n) (h : n < 8) : ∃ l, (∃ K, ∀ k, K ≤ k → spec_ahFlat.f k n = some (l)) ∧ l.length ≤ 14 := by
 have q := List.all_eq_true.1 flat_draw n.toNat (List.mem_range.2 (by omega))
 rw [show ((n.toNat : Nat) : Int) = n by omega] at q
 cases e : spec_ahFlat.f 60 n with
 | none => rw [e] at q; cases q
 | some l => rw [e] at q; exact ⟨l, ⟨60, fun k hk => at_rounds (fun k => spec_ahFlat.mono n k) hk e⟩, of_decide_eq_true q⟩
theorem rainbow_d (n : Int) (h0 : 0 ≤ n) (h : n < 8) : ∃ l, (∃ K, ∀ k, K ≤ k → spec_ahRainbow.f k n = some (l)) ∧ l.length ≤ 14 := by
 have q := List.all_eq_true.1 rainbow_draw n.toNat (List.mem_range.2 (by omega))
 rw [show ((n.toNat : Nat) : Int) = n by omega] at q
 cases e : spec_ahRainbow.f 60 n with
 | none => rw [e] at q; cases q
 | some l => rw [e] at q; exact ⟨l, ⟨60, fun k hk => at_rounds (fun k => spec_ahRainbow.mono n k) hk e⟩, of_decide_eq_true q⟩
theorem system_any {c : List Int} (hc : Bys c) (a s n : Int) (h0 : 0 ≤ a) (h1 : a ≤ 2000000000000000000) (hn0 : 0 ≤ n) (hn : n ≤ 6) :
  ∃ p a' s', (∃ K, ∀ k, K ≤ k → spec_l1Cur_system.f k c a s n = some ((p, a', s'))) ∧ p.length ≤ 14 ∧ a ≤ a' ∧ a' ≤ a + 20 := by
 obtain ⟨r1, a1, s1, e1, q1, q2, q3, q4⟩ := pick_any hc a s (n + 1) h0 (by omega) (by omega) (by omega)
 obtain ⟨p, a2, s2, ⟨K2, e2⟩, q5, q6, q7⟩ := sure_any hc a1 s1 r1 (by omega) (by omega) q1 (by omega)
 obtain ⟨r3, a3, s3, e3, q8, q9, q10, q11⟩ := pick_any hc a2 s2 16 (by omega) (by omega) (by omega) (by omega)
 have w1 : wrap64 (n + 1) = n + 1 := w64 (by omega) (by omega)
 by_cases c0 : r3 = 0
 ·by_cases hp : (p.length : Int) > 0
  ·obtain ⟨r4, a4, s4, e4, q12, q13, q14, q15⟩ := pick_any hc a3 s3 (p.length : Int) (by omega) (by omega) (by omega) (by omega)
   obtain ⟨r5, a5, s5, e5, q16, q17, q18, q19⟩ := pick_any hc a4 s4 ((p.length : Int) + 2) (by omega) (by omega) (by omega) (by omega)
   refine ⟨p.set r4.toNat (r5 - 1), a5, s5, ⟨K2, fun k hk => ?_⟩, by simp; omega, by omega, by omega⟩
   unfold spec_l1Cur_system.f
   rw [w1]
   refine bindE e1 ?_
   dsimp only
   refine bindE (e2 k (by omega)) ?_
   dsimp only
   refine bindE e3 ?_
   dsimp only
   rw [if_pos c0, if_pos hp]
   refine bindE e4 ?_
   dsimp only
   rw [w64 (x := (p.length : Int) + 2) (by omega) (by omega)]
   refine bindE e5 ?_
   dsimp only
   rw [if_pos q12, if_pos q13, w64 (by omega) (by omega)]
  ·refine ⟨p, a3, s3, ⟨K2, fun k hk => ?_⟩, by omega, by omega, by omega⟩
   unfold spec_l1Cur_system.f
   rw [w1]
   refine bindE e1 ?_
   dsimp only
   refine bindE (e2 k (by omega)) ?_
   dsimp only
   refine bindE e3 ?_
   dsimp only
   rw [if_pos c0, if_neg hp]
 ·by_cases c1 : r3 = 1
  ·refine ⟨p ++ [(p.length : Int) + 1], a3, s3, ⟨K2, fun k hk => ?_⟩, by simp; omega, by omega, by omega⟩
   unfold spec_l1Cur_system.f
   rw [w1]
   refine bindE e1 ?_
   dsimp only
   refine bindE (e2 k (by omega)) ?_
   dsimp only
   refine bindE e3 ?_
   dsimp only
   rw [if_neg c0, if_pos c1, if_pos (by omega), w64 (by omega) (by omega)]
  ·by_cases c2 : r3 = 2
   ·obtain ⟨r4, a4, s4, e4, q12, q13, q14, q15⟩ := pick_any hc a3 s3 2 (by omega) (by omega) (by omega) (by omega)
    obtain ⟨l, ⟨K3, e5⟩, q16⟩ := flat_d (6 + r4) (by omega) (by omega)
    refine ⟨l, a4, s4, ⟨K2 + K3, fun k hk => ?_⟩, q16, by omega, by omega⟩
    unfold spec_l1Cur_system.f
    rw [w1]
    refine bindE e1 ?_
    dsimp only
    refine bindE (e2 k (by omega)) ?_
    dsimp only
    refine bindE e3 ?_
    dsimp only
    rw [if_neg c0, if_neg c1, if_pos c2]
    refine bindE e4 ?_
    dsimp only
    rw [w64 (x := 6 + r4) (by omega) (by omega)]
    exact bindE (e5 k (by omega)) rfl
   ·by_cases c3 : r3 = 3
    ·obtain ⟨r4, a4, s4, e4, q12, q13, q14, q15⟩ := pick_any hc a3 s3 7 (by omega) (by omega) (by omega) (by omega)
     obtain ⟨l, ⟨K3, e5⟩, q16⟩ := rainbow_d r4 (by omega) (by omega)
     refine ⟨l, a4, s4, ⟨K2 + K3, fun k hk => ?_⟩, q16, by omega, by omega⟩
     unfold spec_l1Cur_system.f
     rw [w1]
     refine bindE e1 ?_
     dsimp only
     refine bindE (e2 k (by omega)) ?_
     dsimp only
     refine bindE e3 ?_
     dsimp only
     rw [if_neg c0, if_neg c1, if_neg c2, if_pos c3]
     refine bindE e4 ?_
     dsimp only
     exact bindE (e5 k (by omega)) rfl
    ·refine ⟨p, a3, s3, ⟨K2, fun k hk => ?_⟩, by omega, by omega, by omega⟩
     unfold spec_l1Cur_system.f
     rw [w1]
     refine bindE e1 ?_
     dsimp only
     refine bindE (e2 k (by omega)) ?_
     dsimp only
     refine bindE e3 ?_
     dsimp only
     rw [if_neg c0, if_neg c1, if_neg c2, if_neg c3]
theorem among_any {c : List Int} (hc : Bys c) (a s : Int) (l : List Int) (h0 : 0 ≤ a) (h1 : a ≤ 4000000000000000000) (hn : 1 ≤ l.length) (hn2 : l.length ≤ 200) :
  ∃ r a' s', spec_l1Cur_among.f c a s l = some (r, a', s') ∧ r ∈ l ∧ a ≤ a' ∧ a' ≤ a + 1 := by
 obtain ⟨r, a', s', e, q1, q2, q3, q4⟩ := pick_any hc a s (l.length : Int) h0 h1 (by omega) (by omega)
 unfold spec_l1Cur_among.f
 rw [e, Option.bind_some, if_pos q1, if_pos q2]
 exact ⟨_, _, _, rfl, rd_mem l r q1 q2, q3, q4⟩
theorem drawTurn_any {c : List Int} (hc : Bys c) : ∃ p i, (∃ K, ∀ k, K ≤ k → spec_DrawTurnSystem.f k c = some ((p, i))) ∧ p.length ≤ 14 := by
 obtain ⟨r1, a1, s1, e1, q1, q2, q3, q4⟩ := pick_any hc 0 0 25 (by omega) (by omega) (by omega) (by omega)
 obtain ⟨r2, a2, s2, e2, q5, q6⟩ := one_any hc a1 s1 8 (by omega) (by omega) (by omega) (by omega)
 cases r2 with
 | true =>
  obtain ⟨r3, a3, s3, e3, _, q7, q8⟩ := among_any hc a2 s2 ([(-101), (-100), 100, 101, 4611686018427387904] : List Int) (by omega) (by omega) (by simp) (by simp)
  obtain ⟨p, a4, s4, ⟨K4, e4⟩, q9, q10, q11⟩ := system_any hc a3 s3 6 (by omega) (by omega) (by omega) (by omega)
  refine ⟨p, r3, ⟨K4, fun k hk => ?_⟩, q9⟩
  unfold spec_DrawTurnSystem.f spec_DrawTurnSystem_m.f
  refine bindE (a := (p, r3, a4, s4)) (bindE e1 ?_) rfl
  dsimp only
  refine bindE e2 ?_
  dsimp only
  rw [if_pos rfl]
  refine bindE e3 ?_
  dsimp only
  exact bindE (e4 k hk) rfl
 | false =>
  obtain ⟨p, a4, s4, ⟨K4, e4⟩, q9, q10, q11⟩ := system_any hc a2 s2 6 (by omega) (by omega) (by omega) (by omega)
  refine ⟨p, wrap64 (r1 - 12), ⟨K4, fun k hk => ?_⟩, q9⟩
  unfold spec_DrawTurnSystem.f spec_DrawTurnSystem_m.f
  refine bindE (a := (p, wrap64 (r1 - 12), a4, s4)) (bindE e1 ?_) rfl
  dsimp only
  refine bindE e2 ?_
  dsimp only
  rw [if_neg (by decide)]
  exact bindE (e4 k hk) rfl
theorem drawJoin_any {c : List Int} (hc : Bys c) : ∃ p q, (∃ K, ∀ k, K ≤ k → spec_DrawJoinSystems.f k c = some ((p, q))) ∧ p.length ≤ 14 ∧ q.length ≤ 14 := by
 obtain ⟨p, a1, s1, ⟨K1, e1⟩, q1, q2, q3⟩ := system_any hc 0 0 4 (by omega) (by omega) (by omega) (by omega)
 obtain ⟨q, a2, s2, ⟨K2, e2⟩, q4, q5, q6⟩ := system_any hc a1 s1 4 (by omega) (by omega) (by omega) (by omega)
 refine ⟨p, q, ⟨K1 + K2, fun k hk => ?_⟩, q1, q4⟩
 unfold spec_DrawJoinSystems.f spec_DrawJoinSystems_m.f
 refine bindE (a := (p, q, a2, s2)) (bindE (e1 k (by omega)) ?_) rfl
 dsimp only
 exact bindE (e2 k (by omega)) rfl
theorem drawIs_any {c : List Int} (hc : Bys c) : ∃ p, (∃ K, ∀ k, K ≤ k → spec_DrawIsSystem.f k c = some (p)) ∧ p.length ≤ 14 := by
 obtain ⟨p, a1, s1, ⟨K1, e1⟩, q1, q2, q3⟩ := system_any hc 0 0 6 (by omega) (by omega) (by omega) (by omega)
 refine ⟨p, ⟨K1, fun k hk => ?_⟩, q1⟩
 unfold spec_DrawIsSystem.f spec_DrawIsSystem_m.f
 exact bindE (bindE (e1 k hk) rfl) rfl
theorem drawCover_any {c : List Int} (hc : Bys c) : ∃ p, (∃ K, ∀ k, K ≤ k → spec_DrawCoverSystem.f k c = some (p)) ∧ p.length ≤ 14 := by
 obtain ⟨p, ⟨K1, e1⟩, q1⟩ := drawIs_any hc
 exact ⟨p, ⟨K1, fun k hk => by unfold spec_DrawCoverSystem.f; exact bindE (e1 k hk) rfl⟩, q1⟩
theorem arches_any {c : List Int} (hc : Bys c) (a s n : Int) (h0 : 0 ≤ a) (h1 : a ≤ 2000000000000000000) (hn0 : 0 ≤ n) (hn : n ≤ 100) :
  ∃ r a' s', spec_l1Cur_arches.f c a s n = some (r, a', s') ∧ (r = -1 ∨ 0 ≤ r) ∧ r ≤ n + 1 + (if n = 0 then 1 else 0) ∧ a ≤ a' ∧ a' ≤ a + 2 := by
 obtain ⟨r2, a2, s2, e2, q5, q6⟩ := one_any hc a s 8 (by omega) (by omega) (by omega) (by omega)
 unfold spec_l1Cur_arches.f
 have w1 : wrap64 (n + 1) = n + 1 := w64 (by omega) (by omega)
 cases r2 with
 | true =>
  obtain ⟨r3, a3, s3, e3, hm, q7, q8⟩ := among_any hc a2 s2 ([(-1), 0, 1, n, n + 1] : List Int) (by omega) (by omega) (by simp) (by simp)
  refine ⟨r3, a3, s3, ?_, ?_, ?_, by omega, by omega⟩
  ·refine bindE e2 ?_
   dsimp only
   rw [if_pos rfl, w1]
   exact bindE e3 rfl
  ·simp only [List.mem_cons, List.not_mem_nil, or_false] at hm
   rcases hm with h | h | h | h | h <;> omega
  ·simp only [List.mem_cons, List.not_mem_nil, or_false] at hm
   rcases hm with h | h | h | h | h <;> split <;> omega
 | false =>
  obtain ⟨r3, a3, s3, e3, q9, q10, q7, q8⟩ := pick_any hc a2 s2 (n + 1) (by omega) (by omega) (by omega) (by omega)
  refine ⟨r3, a3, s3, ?_, by omega, by split <;> omega, by omega, by omega⟩
  refine bindE e2 ?_
  dsimp only
  rw [if_neg (by decide), w1]
  exact bindE e3 rfl
theorem drawRainbow_any {c : List Int} (hc : Bys c) : ∃ n, spec_DrawRainbowOf.f c = some n := by
 obtain ⟨r, a', s', e, _⟩ := arches_any hc 0 0 6 (by omega) (by omega) (by omega) (by omega)
 refine ⟨r, ?_⟩
 unfold spec_DrawRainbowOf.f spec_DrawAllSystems.f spec_DrawAllSystems_m.f
 exact bindE (bindE (a := (r, a', s')) (bindE e rfl) rfl) rfl
theorem len_turn (l : List Int) (a : Int) : (turnL l a).length = l.length := by simp [turnL, mvd_length]
theorem j9_any (p : List Int) (by_ : Int) (hp : p.length ≤ 14) : (∃ K, ∀ k, K ≤ k → j9 k p by_ (turnR p by_).1 (turnR p by_).2 = some (true)) := by
 by_cases c : sysB p = true ∧ (-100 ≤ by_ ∧ by_ ≤ 100)
 ·have e : turnR p by_ = (turnL p by_, true) := if_pos c
  obtain ⟨t1, t2, t3⟩ := turnBack_any c.1 c.2
  have hl := len_turn p by_
  have h12 := (sysB_rd0 c.1).1
  rw [e]
  obtain ⟨K1, h1⟩ := implTurn_any (turnL p by_) (-by_) (by omega)
  obtain ⟨K2, h2⟩ := implTurn_any p (p.length : Int) (by omega)
  have e1 : turnR (turnL p by_) (-by_) = (p, true) := by unfold turnR; rw [if_pos ⟨t1, by omega⟩, t2]
  have e2 : turnR p (p.length : Int) = (p, true) := by unfold turnR; rw [if_pos ⟨c.1, by omega⟩, t3]
  rw [e1] at h1
  rw [e2] at h2
  obtain ⟨K3, h3⟩ := IsSystem_any (turnL p by_) (by omega)
  rw [t1] at h3
  obtain ⟨K4, h4⟩ := sSame_any p (by omega)
  refine ev_rs (K1 + K2 + K3 + K4) fun m hm => ?_
  rw [j9, if_pos rfl, w64 (x := -by_) (by omega) (by omega)]
  refine bindE (h1 m (by omega)) ?_
  try dsimp only
  refine bindE (h2 m (by omega)) ?_
  try dsimp only
  rw [if_pos rfl, if_pos rfl]
  refine bindE (h3 m (by omega)) ?_
  try dsimp only
  rw [if_pos rfl]
  refine bindE (h4 m (by omega)) ?_
  try dsimp only
  rw [if_pos rfl]
  exact bindE (h4 m (by omega)) rfl
 ·have e : turnR p by_ = ([], false) := if_neg c
  rw [e]
  refine ev_rs 0 fun m hm => ?_
  rw [j9, if_neg (by decide)]
theorem l0_any (p q x : List Int) (b : Int) (f : Bool) (hx : x.length ≤ 12) (hr : ∀ i : Int, 0 ≤ i → i < x.length → rd x i = i) (h9 : (∃ K, ∀ k, K ≤ k → j9 k p b q f = some (true))) (d : Nat) :
  ∀ i : Int, 0 ≤ i → (x.length : Int) - i ≤ d → (∃ K, ∀ k, K ≤ k → laws_FnSystemsMoved.l0 k p b q f x (x.length : Int) i = some (true)) := by
 obtain ⟨K9, h9⟩ := h9
 induction d with
 | zero =>
  intro i h0 hd
  refine ev_rs K9 fun m hm => ?_
  rw [laws_FnSystemsMoved.l0, if_neg (by omega)]
  exact h9 m hm
 | succ d ih =>
  intro i h0 hd
  by_cases hlt : i < (x.length : Int)
  ·obtain ⟨K, ih⟩ := ih (i + 1) (by omega) (by omega)
   refine ev_rs K fun m hm => ?_
   rw [laws_FnSystemsMoved.l0, if_pos hlt, if_pos h0, if_pos hlt, if_pos (hr i h0 hlt), w64 (by omega) (by omega)]
   exact ih m hm
  ·refine ev_rs K9 fun m hm => ?_
   rw [laws_FnSystemsMoved.l0, if_neg hlt]
   exact h9 m hm
def rbL (n : Nat) : List Int := ((spec_ahRainbow.f 60 (n : Nat)).getD [])
def flL (n : Nat) : List Int := ((spec_ahFlat.f 60 (n : Nat)).getD [])
def dpL (n : Nat) : List Int := ((impl_DepthsOf.f 200 (rbL n)).getD ([], false)).1
def rbOk (n : Nat) : Bool := (impl_RainbowOf.f 60 (n : Nat) == some (rbL n, true)) && (spec_RainbowOf.f 60 (n : Nat) == some (rbL n, true)) && (impl_FlatOf.f 60 (n : Nat) == some (flL n, true)) && (spec_FlatOf.f 60 (n : Nat) == some (flL n, true)) &&
 (impl_MirrorSystem.f 200 (rbL n) == some (rbL n, true)) && (impl_MirrorSystem.f 200 (flL n) == some (flL n, true)) && (impl_DepthsOf.f 200 (rbL n) == some (dpL n, true)) && decide ((rbL n).length ≤ 12) && decide ((flL n).length ≤ 12) && decide ((dpL n).length ≤ 12) &&
 ((List.range (dpL n).length).all fun i => rd (dpL n) (i : Nat) == (i : Nat))
theorem rbOk_table : ((List.range 7).all rbOk) = true := by decide +kernel
theorem j5_any {c : List Int} (hc : Bys c) (p q : List Int) (b : Int) (f : Bool) (h9 : (∃ K, ∀ k, K ≤ k → j9 k p b q f = some (true))) : (∃ K, ∀ k, K ≤ k → j5 k c p b q f = some (true)) := by
 obtain ⟨n, hn⟩ := drawRainbow_any hc
 obtain ⟨K9, g9⟩ := h9
 by_cases h : 0 ≤ n ∧ n ≤ 6
 ·have t := List.all_eq_true.1 rbOk_table n.toNat (List.mem_range.2 (by omega))
  unfold rbOk at t
  rw [show ((n.toNat : Nat) : Int) = n by omega] at t
  simp only [Bool.and_eq_true, beq_iff_eq, decide_eq_true_eq] at t
  obtain ⟨⟨⟨⟨⟨⟨⟨⟨⟨⟨t1, t2⟩, t3⟩, t4⟩, t5⟩, t6⟩, t7⟩, t8⟩, t9⟩, ta⟩, tb⟩ := t
  have hr : ∀ i : Int, 0 ≤ i → i < (dpL n.toNat).length → rd (dpL n.toNat) i = i := fun i h0 h1 => by
   have := List.all_eq_true.1 tb i.toNat (List.mem_range.2 (by omega))
   rw [show ((i.toNat : Nat) : Int) = i by omega] at this
   exact beq_iff_eq.1 this
  obtain ⟨K0, h0⟩ := l0_any p q (dpL n.toNat) b f ta hr ⟨K9, g9⟩ (dpL n.toNat).length 0 (by omega) (by omega)
  obtain ⟨K1, h1⟩ := sSame_any (rbL n.toNat) (by omega)
  obtain ⟨K2, h2⟩ := sSame_any (flL n.toNat) (by omega)
  refine ⟨K0 + K1 + K2 + 210, fun k hk => ?_⟩
  obtain ⟨m, rfl⟩ : ∃ m, k = m + 3 := ⟨k - 3, by omega⟩
  have u1 := at_rounds (g := fun k => impl_RainbowOf.f k n) (fun k => impl_RainbowOf.mono n k) (show 60 ≤ m + 2 by omega) t1
  have u2 := at_rounds (g := fun k => spec_RainbowOf.f k n) (fun k => spec_RainbowOf.mono n k) (show 60 ≤ m + 2 by omega) t2
  have u3 := at_rounds (g := fun k => impl_FlatOf.f k n) (fun k => impl_FlatOf.mono n k) (show 60 ≤ m + 2 by omega) t3
  have u4 := at_rounds (g := fun k => spec_FlatOf.f k n) (fun k => spec_FlatOf.mono n k) (show 60 ≤ m + 2 by omega) t4
  have u5 := at_rounds (g := fun k => impl_MirrorSystem.f k (rbL n.toNat)) (fun k => impl_MirrorSystem.mono _ k) (show 200 ≤ m + 1 by omega) t5
  have u6 := at_rounds (g := fun k => impl_MirrorSystem.f k (flL n.toNat)) (fun k => impl_MirrorSystem.mono _ k) (show 200 ≤ m + 1 by omega) t6
  have u7 := at_rounds (g := fun k => impl_DepthsOf.f k (rbL n.toNat)) (fun k => impl_DepthsOf.mono _ k) (show 200 ≤ m + 1 by omega) t7
  rw [j5]
  refine bindE hn ?_
  try dsimp only
  refine bindE u1 ?_
  try dsimp only
  refine bindE u3 ?_
  try dsimp only
  refine bindE u2 ?_
  try dsimp only
  refine bindE u4 ?_
  try dsimp only
  rw [if_neg (by decide), if_neg (by decide)]
  refine bindE (h1 _ (by omega)) ?_
  try dsimp only
  rw [if_pos rfl]
  refine bindE (h2 _ (by omega)) ?_
  rw [j6, if_neg (by decide), if_pos rfl]
  refine bindE u5 ?_
  try dsimp only
  refine bindE u6 ?_
  try dsimp only
  refine bindE u7 ?_
  try dsimp only
  rw [if_pos rfl, if_pos rfl, if_pos rfl]
  refine bindE (h1 _ (by omega)) ?_
  try dsimp only
  rw [if_pos rfl]
  refine bindE (h2 _ (by omega)) ?_
  rw [j7, if_neg (by decide)]
  exact h0 m (by omega)
 ·have h1 : ∀ k, impl_RainbowOf.f k n = some ([], false) := fun k => by simp only [impl_RainbowOf.f, impl_isArches.f, in_any, decide_eq_false h, Option.bind_some, Bool.false_eq_true, if_false]
  have h2 : ∀ k, spec_RainbowOf.f k n = some ([], false) := fun k => by simp only [spec_RainbowOf.f, spec_ahArches.f, l1In_any, decide_eq_false h, Option.bind_some, Bool.false_eq_true, if_false]
  have h3 : ∀ k, impl_FlatOf.f k n = some ([], false) := fun k => by simp only [impl_FlatOf.f, impl_isArches.f, in_any, decide_eq_false h, Option.bind_some, Bool.false_eq_true, if_false]
  have h4 : ∀ k, spec_FlatOf.f k n = some ([], false) := fun k => by simp only [spec_FlatOf.f, spec_ahArches.f, l1In_any, decide_eq_false h, Option.bind_some, Bool.false_eq_true, if_false]
  obtain ⟨K1, hs⟩ := sSame_any ([] : List Int) (by simp)
  refine ⟨K9 + K1 + 2, fun k hk => ?_⟩
  obtain ⟨m, rfl⟩ : ∃ m, k = m + 2 := ⟨k - 2, by omega⟩
  rw [j5]
  refine bindE hn ?_
  try dsimp only
  refine bindE (h1 _) ?_
  try dsimp only
  refine bindE (h3 _) ?_
  try dsimp only
  refine bindE (h2 _) ?_
  try dsimp only
  refine bindE (h4 _) ?_
  try dsimp only
  rw [if_neg (by decide), if_neg (by decide)]
  refine bindE (hs _ (by omega)) ?_
  try dsimp only
  rw [if_pos rfl]
  refine bindE (hs _ (by omega)) ?_
  rw [j6, if_neg (by decide), if_neg (by decide)]
  exact g9 _ (by omega)
def txI (l : List Int) : ByteArray := ((impl_SystemText.f 200 l).getD (⟨#[]⟩, false)).1
def cvI (l : List Int) : List Int × Bool := (spec_CoverSystem.f 200 l).getD ([], false)
def mrI (l : List Int) : List Int := ((spec_MirrorSystem.f 200 l).getD ([], false)).1
def cvOk (l : List Int) : Bool := (spec_CoverSystem.f 200 l == some (cvI l)) && (impl_CoverSystem.f 200 l == some (cvI l)) && (spec_MirrorSystem.f 200 l == some (mrI l, true)) && (impl_MirrorSystem.f 200 l == some (mrI l, true)) && (impl_MirrorSystem.f 200 (mrI l) == some (l, true)) &&
 decide ((cvI l).1.length ≤ 14) && decide ((mrI l).length ≤ 14) && decide (impl_SystemText.f 200 l = some (txI l, true)) && decide ((txI l).size ≤ 14) &&
 (!(cvI l).2 || (decide (impl_SystemText.f 200 (cvI l).1 = some (((⟨#[40]⟩ : ByteArray) ++ txI l) ++ (⟨#[41]⟩ : ByteArray), true)) && (match impl_OuterArches.f 200 (cvI l).1 with | some (o, true) => decide (o.length = 1) | _ => false)))
def cv_table_P : List Int → Bool := fun p => cvOk p
theorem cv_table_4 : ((List.range 5).all fun n => (Pl.sysList n).all cv_table_P) = true := by decide +kernel
theorem cv_table_5_0 : (((Pl.sysList 5).drop (14 * 0)).take 14).all cv_table_P = true := by decide +kernel
theorem cv_table_5_1 : (((Pl.sysList 5).drop (14 * 1)).take 14).all cv_table_P = true := by decide +kernel
theorem cv_table_5_2 : (((Pl.sysList 5).drop (14 * 2)).take 14).all cv_table_P = true := by decide +kernel
theorem cv_table_6_0 : (((Pl.sysList 6).drop (22 * 0)).take 22).all cv_table_P = true := by decide +kernel
theorem cv_table_6_1 : (((Pl.sysList 6).drop (22 * 1)).take 22).all cv_table_P = true := by decide +kernel
theorem cv_table_6_2 : (((Pl.sysList 6).drop (22 * 2)).take 22).all cv_table_P = true := by decide +kernel
theorem cv_table_6_3 : (((Pl.sysList 6).drop (22 * 3)).take 22).all cv_table_P = true := by decide +kernel
theorem cv_table_6_4 : (((Pl.sysList 6).drop (22 * 4)).take 22).all cv_table_P = true := by decide +kernel
theorem cv_table_6_5 : (((Pl.sysList 6).drop (22 * 5)).take 22).all cv_table_P = true := by decide +kernel
theorem cv_table : ((List.range 7).all fun n => (Pl.sysList n).all cv_table_P) = true := by
 refine tab_of cv_table_4 (fun i hi => ?_) (fun i hi => ?_)
 ·match i, hi with
  | 0, _ => exact cv_table_5_0
  | 1, _ => exact cv_table_5_1
  | 2, _ => exact cv_table_5_2
 ·match i, hi with
  | 0, _ => exact cv_table_6_0
  | 1, _ => exact cv_table_6_1
  | 2, _ => exact cv_table_6_2
  | 3, _ => exact cv_table_6_3
  | 4, _ => exact cv_table_6_4
  | 5, _ => exact cv_table_6_5
theorem j2_any {c0 c1 : List Int} (hc0 : Bys c0) (hc1 : Bys c1) (p q : List Int) (b : Int) (f : Bool) (h9 : (∃ K, ∀ k, K ≤ k → j9 k p b q f = some (true))) : (∃ K, ∀ k, K ≤ k → j2 k c0 c1 p b q f = some (true)) := by
 obtain ⟨s, ⟨K0, hd⟩, hl⟩ := drawCover_any hc1
 obtain ⟨K5, h5⟩ := j5_any hc0 p q b f h9
 cases hB : sysB s with
 | true =>
  have t := of_table cv_table hB
  unfold cv_table_P cvOk at t
  simp only [Bool.and_eq_true, beq_iff_eq, decide_eq_true_eq] at t
  obtain ⟨⟨⟨⟨⟨⟨⟨⟨⟨t1, t2⟩, t3⟩, t4⟩, t5⟩, t6⟩, t7⟩, t8⟩, t9⟩, ta⟩ := t
  obtain ⟨K1, h1⟩ := sSame_any (cvI s).1 (by omega)
  obtain ⟨K2, h2⟩ := sSame_any (mrI s) (by omega)
  obtain ⟨K3, h3⟩ := sSame_any s (by omega)
  refine ⟨K0 + K1 + K2 + K3 + K5 + 210, fun k hk => ?_⟩
  obtain ⟨m, rfl⟩ : ∃ m, k = m + 3 := ⟨k - 3, by omega⟩
  have u1 := at_rounds (g := fun k => spec_CoverSystem.f k s) (fun k => spec_CoverSystem.mono s k) (show 200 ≤ m + 2 by omega) t1
  have u2 := at_rounds (g := fun k => impl_CoverSystem.f k s) (fun k => impl_CoverSystem.mono s k) (show 200 ≤ m + 2 by omega) t2
  have u3 := at_rounds (g := fun k => spec_MirrorSystem.f k s) (fun k => spec_MirrorSystem.mono s k) (show 200 ≤ m + 2 by omega) t3
  have u4 := at_rounds (g := fun k => impl_MirrorSystem.f k s) (fun k => impl_MirrorSystem.mono s k) (show 200 ≤ m + 2 by omega) t4
  have u5 := at_rounds (g := fun k => impl_MirrorSystem.f k (mrI s)) (fun k => impl_MirrorSystem.mono _ k) (show 200 ≤ m + 1 by omega) t5
  have u8 := at_rounds (g := fun k => impl_SystemText.f k s) (fun k => impl_SystemText.mono s k) (show 200 ≤ m by omega) t8
  have last : j4 (m + 1) c0 p b q f s (cvI s).1 (cvI s).2 = some true := by
   cases hc : cvI s with
   | mk cv o =>
    rw [hc] at ta
    cases o with
    | false => rw [j4, if_neg (by simp)]; exact h5 _ (by omega)
    | true =>
     simp only [Bool.not_true, Bool.false_or, Bool.and_eq_true, decide_eq_true_eq] at ta
     have u9 := at_rounds (g := fun k => impl_SystemText.f k cv) (fun k => impl_SystemText.mono cv k) (show 200 ≤ m by omega) ta.1
     have tb := ta.2
     cases ho : impl_OuterArches.f 200 cv with
     | none => rw [ho] at tb; cases tb
     | some oo =>
      obtain ⟨o, g⟩ := oo
      rw [ho] at tb
      cases g with
      | false => cases tb
      | true =>
       have o1 : o.length = 1 := of_decide_eq_true tb
       have ub := at_rounds (g := fun k => impl_OuterArches.f k cv) (fun k => impl_OuterArches.mono cv k) (show 200 ≤ m by omega) ho
       have z1 : (((⟨#[40]⟩ : ByteArray) ++ txI s)).size = 1 + (txI s).size := by rw [ByteArray.size_append]; rfl
       rw [j4, if_pos rfl]
       refine bindE u8 ?_
       try dsimp only
       refine bindE u9 ?_
       try dsimp only
       refine bindE ub ?_
       try dsimp only
       rw [if_pos rfl, if_pos rfl, if_pos (by omega), if_pos (by rw [z1]; omega), if_pos rfl, if_pos rfl, if_pos (by omega)]
       exact h5 _ (by omega)
  rw [j2]
  refine bindE (hd _ (by omega)) ?_
  try dsimp only
  refine bindE u2 ?_
  try dsimp only
  refine bindE u1 ?_
  try dsimp only
  refine bindE u4 ?_
  try dsimp only
  refine bindE u3 ?_
  try dsimp only
  rw [if_neg (by simp)]
  refine bindE (h1 _ (by omega)) ?_
  try dsimp only
  rw [if_pos rfl, if_neg (by decide)]
  refine bindE (h2 _ (by omega)) ?_
  rw [j3, if_neg (by decide), if_pos rfl]
  refine bindE u5 ?_
  try dsimp only
  rw [if_pos rfl]
  refine bindE (h3 _ (by omega)) ?_
  try dsimp only
  rw [if_pos rfl]
  exact last
 | false =>
  obtain ⟨K2, h2⟩ := IsSystem_any s (by omega)
  obtain ⟨K3, h3⟩ := ahGood_any s (by omega)
  obtain ⟨K4, h4⟩ := sSame_any ([] : List Int) (by simp)
  rw [hB] at h2 h3
  have a1 : ∀ k, K3 ≤ k → spec_CoverSystem.f k s = some ([], false) := fun k hk => by simp [spec_CoverSystem.f, h3 k hk]
  have a2 : ∀ k, K2 ≤ k → impl_CoverSystem.f k s = some ([], false) := fun k hk => by simp [impl_CoverSystem.f, h2 k hk]
  have a3 : ∀ k, K3 ≤ k → spec_MirrorSystem.f k s = some ([], false) := fun k hk => by simp [spec_MirrorSystem.f, h3 k hk]
  have a4 : ∀ k, K2 ≤ k → impl_MirrorSystem.f k s = some ([], false) := fun k hk => by simp [impl_MirrorSystem.f, h2 k hk]
  refine ⟨K0 + K2 + K3 + K4 + K5 + 3, fun k hk => ?_⟩
  obtain ⟨m, rfl⟩ : ∃ m, k = m + 3 := ⟨k - 3, by omega⟩
  rw [j2]
  refine bindE (hd _ (by omega)) ?_
  try dsimp only
  refine bindE (a2 _ (by omega)) ?_
  try dsimp only
  refine bindE (a1 _ (by omega)) ?_
  try dsimp only
  refine bindE (a4 _ (by omega)) ?_
  try dsimp only
  refine bindE (a3 _ (by omega)) ?_
  try dsimp only
  rw [if_neg (by decide)]
  refine bindE (h4 _ (by omega)) ?_
  try dsimp only
  rw [if_pos rfl, if_neg (by decide)]
  refine bindE (h4 _ (by omega)) ?_
  rw [j3, if_neg (by decide), if_neg (by decide), j4, if_neg (by decide)]
  exact h5 _ (by omega)
def jnOk (a b : List Int) : Bool := decide (impl_SystemText.f 200 (joinL a b) = some (txI a ++ txI b, true))
theorem jn_table : ((List.range 7).all fun n => (Pl.sysList n).all fun a => (List.range (7 - n)).all fun m => (Pl.sysList m).all fun b => jnOk a b) = true := by decide +kernel
theorem jn_any {a b : List Int} (ha : sysB a = true) (hb : sysB b = true) (h : a.length + b.length ≤ 12) : jnOk a b = true := by
 obtain ⟨h7, hm⟩ := sysB_mem ha
 obtain ⟨g7, gm⟩ := sysB_mem hb
 exact List.all_eq_true.1 (List.all_eq_true.1 (List.all_eq_true.1 (List.all_eq_true.1 jn_table _ (List.mem_range.2 h7)) _ hm) _ (List.mem_range.2 (by omega))) _ gm
theorem j1_any (a b : List Int) (c0 c1 p q : List Int) (by_ : Int) (f : Bool) (h2 : (∃ K, ∀ k, K ≤ k → j2 k c0 c1 p by_ q f = some (true))) : (∃ K, ∀ k, K ≤ k → j1 k c0 c1 p by_ q f a b (joinR a b).1 (joinR a b).2 false = some (true)) := by
 obtain ⟨K2, h2⟩ := h2
 by_cases c : sysB a = true ∧ sysB b = true ∧ ¬ (a.length : Int) + b.length > 12
 ·have e : joinR a b = (joinL a b, true) := if_pos c
  rw [e]
  have ta := of_table cv_table c.1
  have tb := of_table cv_table c.2.1
  unfold cv_table_P cvOk at ta tb
  simp only [Bool.and_eq_true, beq_iff_eq, decide_eq_true_eq] at ta tb
  have tj := jn_any c.1 c.2.1 (by omega)
  unfold jnOk at tj
  have tj := of_decide_eq_true tj
  refine ⟨K2 + 201, fun k hk => ?_⟩
  obtain ⟨m, rfl⟩ : ∃ m, k = m + 1 := ⟨k - 1, by omega⟩
  have ua := at_rounds (g := fun k => impl_SystemText.f k a) (fun k => impl_SystemText.mono a k) (show 200 ≤ m by omega) ta.1.1.2
  have ub := at_rounds (g := fun k => impl_SystemText.f k b) (fun k => impl_SystemText.mono b k) (show 200 ≤ m by omega) tb.1.1.2
  have uj := at_rounds (g := fun k => impl_SystemText.f k (joinL a b)) (fun k => impl_SystemText.mono _ k) (show 200 ≤ m by omega) tj
  have za := ta.1.2
  have zb := tb.1.2
  rw [j1, if_neg (by decide), if_pos rfl]
  refine bindE ua ?_
  try dsimp only
  refine bindE ub ?_
  try dsimp only
  refine bindE uj ?_
  try dsimp only
  rw [if_pos rfl, if_pos rfl, if_pos rfl, if_pos (by omega), if_pos rfl]
  exact h2 _ (by omega)
 ·have e : joinR a b = ([], false) := if_neg c
  rw [e]
  refine ⟨K2 + 1, fun k hk => ?_⟩
  obtain ⟨m, rfl⟩ : ∃ m, k = m + 1 := ⟨k - 1, by omega⟩
  rw [j1, if_neg (by decide), if_neg (by decide)]
  exact h2 _ (by omega)
theorem FnSystemsMoved : laws_FnSystemsMoved.Pure := by
 intro l0 l1 _ _ hw0 _ _ hw1
 by_cases hb : l0.length ≤ 1048576 ∧ (l1.length : Int) ≤ 1048576 - l0.length
 ·have hc0 := bys_of hb.1 hw0
  have hc1 := bys_of (c := l1) (by omega) hw1
  have hbig := big_any l0 l1 hb.1 hb.2
  obtain ⟨p, a, ⟨K1, h1⟩, hp⟩ := drawTurn_any hc0
  obtain ⟨K2, h2⟩ := implTurn_any p a (by omega)
  obtain ⟨K3, h3⟩ := specTurn_any p a (by omega)
  have hR := turnR_length p a
  obtain ⟨K4, h4⟩ := sSame_any (turnR p a).1 (by omega)
  obtain ⟨x, y, ⟨K5, h5⟩, hx, hy⟩ := drawJoin_any hc1
  obtain ⟨K6, h6⟩ := implJoin_any x y (by omega) (by omega)
  obtain ⟨K7, h7⟩ := specJoin_any x y (by omega) (by omega)
  have hJ := joinR_length x y
  obtain ⟨K8, h8⟩ := sSame_any (joinR x y).1 (by omega)
  obtain ⟨K9, h9⟩ := j1_any x y l0 l1 p (turnR p a).1 a (turnR p a).2 (j2_any hc0 hc1 p (turnR p a).1 a (turnR p a).2 (j9_any p a hp))
  refine ⟨K1 + K2 + K3 + K4 + K5 + K6 + K7 + K8 + K9 + 2, ?_⟩
  rw [laws_FnSystemsMoved.f, hbig, Option.bind_some, if_neg (by decide)]
  refine bindE (h1 _ (by omega)) ?_
  try dsimp only
  refine bindE (h2 _ (by omega)) ?_
  try dsimp only
  refine bindE (h3 _ (by omega)) ?_
  try dsimp only
  rw [if_neg (by simp)]
  refine bindE (h4 _ (by omega)) ?_
  rw [j0, if_neg (by decide)]
  refine bindE (h5 _ (by omega)) ?_
  try dsimp only
  refine bindE (h6 _ (by omega)) ?_
  try dsimp only
  refine bindE (h7 _ (by omega)) ?_
  try dsimp only
  rw [if_neg (by simp)]
  refine bindE (h8 _ (by omega)) ?_
  exact h9 _ (by omega)
 ·exact ⟨0, by simp only [laws_FnSystemsMoved.f, big_yes l0 l1 hb, Option.bind_some, if_true]⟩
end Go.Proofs.Ytonobgbpgeielaa.Pure
