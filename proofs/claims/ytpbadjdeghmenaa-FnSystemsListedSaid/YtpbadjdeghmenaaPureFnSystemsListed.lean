/- The law FnSystemsListed answers true at every pair of byte rows: arch systems are listed in order, ranked and counted, and read back from their texts. Conditions: none beyond the form's own. -/
import Derived.Test.YtpbadjdeghmenaaQFnSystemsListedx15
import Derived.Test.YtpbadjdeghmenaaMyPl
namespace Go.Proofs.Ytpbadjdeghmenaa.Pure
open Go.RowKit Go.Proofs.Ytpbadjdeghmenaa.QFnSystemsListed Go.Proofs.YtpbadjdeghmenaaW.PrintWords Go.Proofs.YtpbadjdeghmenaaW.PrintLast
open laws_FnSystemsListed
set_option linter.unusedVariables false
set_option linter.unusedSimpArgs false
theorem w64 {x : Int} (h1 : -9223372036854775808 ≤ x) (h2 : x < 9223372036854775808) : wrap64 x = x := by unfold wrap64; omega
theorem ev_rs {α : Type} {g : Nat → Option α} {r : α} (K : Nat) (h : ∀ m, K ≤ m → g (m + 1) = some r) : ∃ K, ∀ k, K ≤ k → g k = some r := by
 refine ⟨K + 1, fun k hk => ?_⟩
 obtain ⟨m, rfl⟩ : ∃ m, k = m + 1 := ⟨k - 1, by omega⟩
 exact h m (by omega)
noncomputable def tf (P : Prop) : Bool := @decide P (Classical.propDecidable P)
theorem tf_t {P : Prop} (h : P) : tf P = true := by unfold tf; simp [h]
theorem tf_f {P : Prop} (h : ¬ P) : tf P = false := by unfold tf; simp [h]
theorem tf_iff {P : Prop} : tf P = true ↔ P := by unfold tf; simp
theorem tf_c {P Q : Prop} (h : P ↔ Q) : tf P = tf Q := by rw [propext h]
theorem rd_get (l : List Int) (i : Nat) (h : i < l.length) : rd l i = l[i] := by
 unfold rd
 rw [Int.toNat_natCast, List.getD_eq_getElem?_getD, List.getElem?_eq_getElem h]; rfl
theorem rd_mem (l : List Int) (i : Int) (h0 : 0 ≤ i) (h : i < l.length) : rd l i ∈ l := by
 have e := rd_get l i.toNat (by omega)
 rw [show ((i.toNat : Nat) : Int) = i by omega] at e
 rw [e]; exact List.getElem_mem _
theorem in_any (a lo hi : Int) : impl_in.f a lo hi = some (decide (lo ≤ a ∧ a ≤ hi)) := by
 unfold impl_in.f
 by_cases h : lo ≤ a <;> simp [h]
theorem l1In_any (a lo hi : Int) : spec_l1In.f a lo hi = some (decide (lo ≤ a ∧ a ≤ hi)) := by
 unfold spec_l1In.f
 by_cases h : lo ≤ a
 ·rw [if_pos h]; simp [h]
 ·rw [if_neg h]; simp [h]
def AllIn (n : Int) (q : Int → Int) (i : Int) : Prop := ∀ j : Int, i ≤ j → j < n → 0 ≤ q j ∧ q j < n ∧ q j ≠ j ∧ q (q j) = j
def NoCross (n : Int) (q : Int → Int) (i : Int) : Prop := ∀ a b, i ≤ a → a < n → a < b → b < q a → a ≤ q b ∧ q b ≤ q a
theorem sys_of {n : Int} {q : Int → Int} : Pl.Sys n q ↔ AllIn n q 0 ∧ NoCross n q 0 :=
 ⟨fun s => ⟨fun j h0 h1 => ⟨s.lo j h0 h1, s.hi j h0 h1, s.ne j h0 h1, s.inv j h0 h1⟩, s.cr⟩,
 fun ⟨h, c⟩ => ⟨fun j h0 h1 => (h j h0 h1).1, fun j h0 h1 => (h j h0 h1).2.1, fun j h0 h1 => (h j h0 h1).2.2.1, fun j h0 h1 => (h j h0 h1).2.2.2, c⟩⟩
theorem isSystem_l2 (l : List Int) (hn : l.length < 4611686018427387904) (a : Int) (ha : 0 ≤ a) (hal : a < l.length) (hA : AllIn l.length (rd l) 0)
  (h1 : (∃ K, ∀ k, K ≤ k → impl_isSystem.l1 k l l l.length (a + 1) = some (tf (NoCross l.length (rd l) (a + 1))))) (d : Nat) :
  ∀ b : Int, a < b → rd l a - b ≤ d → (∃ K, ∀ k, K ≤ k → impl_isSystem.l2 k l a (rd l a) b l l.length a = some (tf ((∀ b' : Int, b ≤ b' → b' < rd l a → a ≤ rd l b' ∧ rd l b' ≤ rd l a) ∧ NoCross l.length (rd l) (a + 1)))) := by
 have hq := hA a ha hal
 obtain ⟨K1, h1⟩ := h1
 have out : ∀ b : Int, a < b → ¬ b < rd l a → (∃ K, ∀ k, K ≤ k → impl_isSystem.l2 k l a (rd l a) b l l.length a = some (tf ((∀ b' : Int, b ≤ b' → b' < rd l a → a ≤ rd l b' ∧ rd l b' ≤ rd l a) ∧ NoCross l.length (rd l) (a + 1)))) := by
  intro b hb hlt
  refine ev_rs K1 fun m hm => ?_
  simp (disch := omega) only [impl_isSystem.l2, if_neg, w64]
  rw [h1 m hm]
  congr 1
  exact tf_c ⟨fun h => ⟨fun b' _ _ => by omega, h⟩, fun h => h.2⟩
 induction d with
 | zero =>
  intro b hb hd
  exact out b hb (by omega)
 | succ d ih =>
  intro b hb hd
  by_cases hlt : b < rd l a
  ·obtain ⟨K, ih⟩ := ih (b + 1) (by omega) (by omega)
   by_cases he : a ≤ rd l b ∧ rd l b ≤ rd l a
   ·refine ev_rs K fun m hm => ?_
    simp (disch := omega) only [impl_isSystem.l2, if_pos, w64, in_any, Option.bind_some]
    rw [decide_eq_true he]
    simp only [if_true]
    rw [ih m hm]
    congr 1
    refine tf_c ⟨fun h => ⟨fun b' h2 h3 => ?_, h.2⟩, fun h => ⟨fun b' h2 h3 => h.1 b' (by omega) h3, h.2⟩⟩
    by_cases e : b' = b
    ·rw [e]; exact he
    ·exact h.1 b' (by omega) h3
   ·refine ev_rs 0 fun m hm => ?_
    simp (disch := omega) only [impl_isSystem.l2, if_pos, in_any, Option.bind_some]
    rw [decide_eq_false he, tf_f]
    ·simp
    ·exact fun h => he (h.1 b (Int.le_refl _) hlt)
  ·exact out b hb hlt
theorem isSystem_l1 (l : List Int) (hn : l.length < 4611686018427387904) (hA : AllIn l.length (rd l) 0) (d : Nat) : ∀ a : Int, 0 ≤ a → (l.length : Int) - a ≤ d →
  (∃ K, ∀ k, K ≤ k → impl_isSystem.l1 k l l l.length a = some (tf (NoCross l.length (rd l) a))) := by
 have out : ∀ a : Int, ¬ a < l.length → (∃ K, ∀ k, K ≤ k → impl_isSystem.l1 k l l l.length a = some (tf (NoCross l.length (rd l) a))) := by
  intro a hlt
  refine ev_rs 0 fun m hm => ?_
  simp (disch := omega) only [impl_isSystem.l1, if_neg]
  rw [tf_t]
  intro a' b h1 h2; omega
 induction d with
 | zero => intro a h0 hd; exact out a (by omega)
 | succ d ih =>
  intro a h0 hd
  by_cases hlt : a < (l.length : Int)
  ·have h1 := ih (a + 1) (by omega) (by omega)
   have hq := hA a h0 hlt
   obtain ⟨K, h2⟩ := isSystem_l2 l hn a h0 hlt hA h1 (rd l a - (a + 1)).toNat (a + 1) (by omega) (by omega)
   refine ev_rs K fun m hm => ?_
   simp (disch := omega) only [impl_isSystem.l1, if_pos, w64]
   rw [h2 m hm]
   congr 1
   refine tf_c ⟨fun h a' b h3 h4 h5 h6 => ?_, fun h => ⟨fun b' h3 h4 => h a b' (Int.le_refl _) hlt (by omega) h4, fun a' b h3 h4 h5 h6 => h a' b (by omega) h4 h5 h6⟩⟩
   by_cases e : a' = a
   ·subst e; exact h.1 b (by omega) h6
   ·exact h.2 a' b (by omega) h4 h5 h6
  ·exact out a hlt
theorem isSystem_l0 (l : List Int) (hn : l.length < 4611686018427387904) (d : Nat) : ∀ i : Int, 0 ≤ i → (l.length : Int) - i ≤ d → (∀ j : Int, 0 ≤ j → j < i → 0 ≤ rd l j ∧ rd l j < l.length ∧ rd l j ≠ j ∧ rd l (rd l j) = j) →
  (∃ K, ∀ k, K ≤ k → impl_isSystem.l0 k l l l.length i = some (tf (AllIn l.length (rd l) i ∧ NoCross l.length (rd l) 0))) := by
 have out : ∀ i : Int, 0 ≤ i → ¬ i < l.length → (∀ j : Int, 0 ≤ j → j < i → 0 ≤ rd l j ∧ rd l j < l.length ∧ rd l j ≠ j ∧ rd l (rd l j) = j) → (∃ K, ∀ k, K ≤ k → impl_isSystem.l0 k l l l.length i = some (tf (AllIn l.length (rd l) i ∧ NoCross l.length (rd l) 0))) := by
  intro i h0 hlt hp
  obtain ⟨K, h1⟩ := isSystem_l1 l hn (fun j h1 h2 => hp j h1 (by omega)) l.length 0 (by omega) (by omega)
  refine ev_rs K fun m hm => ?_
  simp (disch := omega) only [impl_isSystem.l0, if_neg]
  rw [h1 m hm]
  congr 1
  exact tf_c ⟨fun h => ⟨fun j _ _ => by omega, h⟩, fun h => h.2⟩
 induction d with
 | zero => intro i h0 hd hp; exact out i h0 (by omega) hp
 | succ d ih =>
  intro i h0 hd hp
  by_cases hlt : i < (l.length : Int)
  ·by_cases hr : 0 ≤ rd l i ∧ rd l i ≤ (l.length : Int) - 1
   ·by_cases hs : rd l i = i
    ·refine ev_rs 0 fun m hm => ?_
     simp (disch := omega) only [impl_isSystem.l0, if_pos, w64, in_any, Option.bind_some]
     rw [decide_eq_true hr, tf_f]
     ·simp [hs]
     ·exact fun h => (h.1 i (Int.le_refl _) hlt).2.2.1 hs
    ·by_cases hi : rd l (rd l i) = i
     ·obtain ⟨K, ih⟩ := ih (i + 1) (by omega) (by omega) (fun j h1 h2 => by
       by_cases e : j = i
       ·subst e; exact ⟨by omega, by omega, hs, hi⟩
       ·exact hp j h1 (by omega))
      refine ev_rs K fun m hm => ?_
      simp (disch := omega) only [impl_isSystem.l0, if_pos, if_neg, w64, in_any, Option.bind_some]
      rw [decide_eq_true hr, if_pos rfl, ih m hm]
      congr 1
      refine tf_c ⟨fun h => ⟨fun j h1 h2 => ?_, h.2⟩, fun h => ⟨fun j h1 h2 => h.1 j (by omega) h2, h.2⟩⟩
      by_cases e : j = i
      ·subst e; exact ⟨by omega, by omega, hs, hi⟩
      ·exact h.1 j (by omega) h2
     ·refine ev_rs 0 fun m hm => ?_
      simp (disch := omega) only [impl_isSystem.l0, if_pos, if_neg, w64, in_any, Option.bind_some]
      rw [decide_eq_true hr, tf_f]
      ·simp
      ·exact fun h => hi (h.1 i (Int.le_refl _) hlt).2.2.2
   ·refine ev_rs 0 fun m hm => ?_
    simp (disch := omega) only [impl_isSystem.l0, if_pos, w64, in_any, Option.bind_some]
    rw [decide_eq_false hr, tf_f]
    ·simp
    ·exact fun h => hr (by have := h.1 i (Int.le_refl _) hlt; omega)
  ·exact out i h0 hlt hp
noncomputable def sysB (l : List Int) : Bool := tf (l.length ≤ 12 ∧ Pl.Sys l.length (rd l))
theorem isSystem_any (l : List Int) (hn : l.length < 4611686018427387904) : (∃ K, ∀ k, K ≤ k → impl_isSystem.f k l = some (tf (Pl.Sys l.length (rd l)))) := by
 obtain ⟨K, h⟩ := isSystem_l0 l hn l.length 0 (by omega) (by omega) (fun j _ _ => by omega)
 refine ⟨K, fun k hk => ?_⟩
 unfold impl_isSystem.f
 rw [h k hk]
 exact congrArg _ (tf_c sys_of.symm)
theorem IsSystem_any (l : List Int) (hn : l.length < 4611686018427387904) : (∃ K, ∀ k, K ≤ k → impl_IsSystem.f k l = some (sysB l)) := by
 obtain ⟨K, h⟩ := isSystem_any l hn
 refine ⟨K, fun k hk => ?_⟩
 unfold impl_IsSystem.f sysB
 by_cases h12 : (l.length : Int) ≤ 12
 ·rw [if_pos h12, h k hk]
  exact congrArg _ (tf_c ⟨fun h => ⟨by omega, h⟩, fun h => h.2⟩)
 ·rw [if_neg h12, tf_f]
  exact fun h => h12 (by omega)
theorem l1All_l (l : List Int) (hn : l.length < 4611686018427387904) (lo hi : Int) (d : Nat) : ∀ i : Int, 0 ≤ i → (l.length : Int) - i ≤ d →
  (∃ K, ∀ k, K ≤ k → spec_l1All.l0 k lo hi l l.length i = some (tf (∀ j : Int, i ≤ j → j < l.length → lo ≤ rd l j ∧ rd l j ≤ hi))) := by
 have out : ∀ i : Int, ¬ i < l.length → (∃ K, ∀ k, K ≤ k → spec_l1All.l0 k lo hi l l.length i = some (tf (∀ j : Int, i ≤ j → j < l.length → lo ≤ rd l j ∧ rd l j ≤ hi))) := by
  intro i hlt
  refine ev_rs 0 fun m hm => ?_
  simp (disch := omega) only [spec_l1All.l0, if_neg]
  rw [tf_t]
  intro j h1 h2; omega
 induction d with
 | zero => intro i h0 hd; exact out i (by omega)
 | succ d ih =>
  intro i h0 hd
  by_cases hlt : i < (l.length : Int)
  ·obtain ⟨K, ih⟩ := ih (i + 1) (by omega) (by omega)
   by_cases he : lo ≤ rd l i ∧ rd l i ≤ hi
   ·refine ev_rs K fun m hm => ?_
    simp (disch := omega) only [spec_l1All.l0, if_pos, w64, l1In_any, Option.bind_some]
    rw [decide_eq_true he, if_pos rfl, ih m hm]
    congr 1
    refine tf_c ⟨fun h j h1 h2 => ?_, fun h j h1 h2 => h j (by omega) h2⟩
    by_cases e : j = i
    ·rw [e]; exact he
    ·exact h j (by omega) h2
   ·refine ev_rs 0 fun m hm => ?_
    simp (disch := omega) only [spec_l1All.l0, if_pos, l1In_any, Option.bind_some]
    rw [decide_eq_false he, tf_f]
    ·simp
    ·exact fun h => he (h i (Int.le_refl _) hlt)
  ·exact out i hlt
theorem l1All_any (l : List Int) (hn : l.length < 4611686018427387904) (lo hi : Int) : (∃ K, ∀ k, K ≤ k → spec_l1All.f k l lo hi = some (tf (∀ j : Int, 0 ≤ j → j < l.length → lo ≤ rd l j ∧ rd l j ≤ hi))) :=
 l1All_l l hn lo hi l.length 0 (by omega) (by omega)
theorem ahGood_l (l : List Int) (hn : l.length ≤ 12) (hR : ∀ j : Int, 0 ≤ j → j < l.length → 0 ≤ rd l j ∧ rd l j ≤ (l.length : Int) - 1) (d : Nat) : ∀ (i : Int) (op : List Int), 0 ≤ i → i ≤ l.length → (l.length : Int) - i ≤ d → (op.length : Int) ≤ i →
  Pl.Ideal (rd l) i op ∨ (Pl.Doomed l.length (rd l) i op ∧ ¬ Pl.Sys l.length (rd l)) →
  (∃ K, ∀ k, K ≤ k → spec_ahGood.l0 k l op l l.length i = some (tf (Pl.Sys l.length (rd l)))) := by
 have out : ∀ (i : Int) (op : List Int), i ≤ l.length → ¬ i < l.length → Pl.Ideal (rd l) i op ∨ (Pl.Doomed l.length (rd l) i op ∧ ¬ Pl.Sys l.length (rd l)) →
  (∃ K, ∀ k, K ≤ k → spec_ahGood.l0 k l op l l.length i = some (tf (Pl.Sys l.length (rd l)))) := by
  intro i op hi hlt h
  rcases h with h | h
  ·have e : i = l.length := by omega
   subst e
   refine ev_rs 0 fun m hm => ?_
   simp (disch := omega) only [spec_ahGood.l0, if_neg]
   rw [tf_t (h.finish (fun j h0 h1 => (hR j h0 h1).1) (fun j h0 h1 => by have := hR j h0 h1; omega))]
  ·have := h.1.lt; omega
 induction d with
 | zero => intro i op h0 hi hd hop h; exact out i op hi (by omega) h
 | succ d ih =>
  intro i op h0 hi hd hop h
  by_cases hlt : i < (l.length : Int)
  ·have hr := hR i h0 hlt
   by_cases hgt : rd l i > i
   ·by_cases he : rd l (rd l i) = i
    ·-- an arch begins
     obtain ⟨K, ih⟩ := ih (i + 1) (i :: op) (by omega) (by omega) (by omega) (by simp; omega) (by
      rcases h with h | h
      ·exact .inl (h.push h0 hgt he)
      ·exact .inr ⟨h.1.push hgt, h.2⟩)
     refine ev_rs (K + 1) fun m hm => ?_
     obtain ⟨m, rfl⟩ : ∃ m', m = m' + 1 := ⟨m - 1, by omega⟩
     have hb : (rd l (rd l i) == i) = true := by simp [he]
     simp (disch := omega) only [spec_ahGood.l0, if_pos, w64]
     rw [hb]
     simp only [spec_ahGood.j2, if_true, Option.bind_some]
     rw [if_pos (by simp; omega), w64 (by omega) (by omega)]
     exact ih m (by omega)
    ·have hb : (rd l (rd l i) == i) = false := by simp [he]
     refine ev_rs 1 fun m hm => ?_
     obtain ⟨m, rfl⟩ : ∃ m', m = m' + 1 := ⟨m - 1, by omega⟩
     simp (disch := omega) only [spec_ahGood.l0, if_pos, w64]
     rw [hb, tf_f (Pl.Ideal.fail_push he h0 hlt)]
     simp (disch := omega) only [spec_ahGood.j2, Bool.false_eq_true, if_false, if_neg]
   ·by_cases hs : rd l i = i
    ·refine ev_rs 1 fun m hm => ?_
     obtain ⟨m, rfl⟩ : ∃ m', m = m' + 1 := ⟨m - 1, by omega⟩
     simp (disch := omega) only [spec_ahGood.l0, if_pos, if_neg, w64]
     rw [tf_f (Pl.Ideal.fail_self hs h0 hlt)]
     simp (disch := omega) only [spec_ahGood.j2, Bool.false_eq_true, if_false, if_neg]
    ·have hls : rd l i < i := by omega
     have stop : op.head? ≠ some (rd l i) → ¬ Pl.Sys l.length (rd l) := fun hh => by
      rcases h with h | h
      ·exact h.fail_pop h0 hlt hls hh
      ·exact h.2
     cases op with
     | nil =>
      refine ev_rs 1 fun m hm => ?_
      obtain ⟨m, rfl⟩ : ∃ m', m = m' + 1 := ⟨m - 1, by omega⟩
      simp (disch := omega) only [spec_ahGood.l0, if_pos, if_neg, w64]
      rw [tf_f (stop (by simp))]
      simp (disch := omega) only [spec_ahGood.j2, Bool.false_eq_true, if_false, if_pos]
      simp
     | cons b t =>
      have hd0 : rd (b :: t) 0 = b := rfl
      by_cases hbt : b = rd l i
      ·obtain ⟨K, ih⟩ := ih (i + 1) t (by omega) (by omega) (by omega) (by simp at hop; omega) (by
        rcases h with h | h
        ·by_cases he : rd l b = i
         ·exact .inl (h.pop h0 hbt.symm (by omega) he (fun b h1 h2 => (hR b h1 (by omega)).1))
         ·refine .inr ⟨h.doom h0 hbt.symm (by omega) he ?_, ?_⟩
          ·have := (hR b (by omega) (by omega)).2; omega
          ·intro s
           have := s.inv i h0 hlt
           rw [← hbt] at this; exact he this
        ·exact .inr ⟨h.1.pop hbt.symm, h.2⟩)
       refine ev_rs (K + 1) fun m hm => ?_
       obtain ⟨m, rfl⟩ : ∃ m', m = m' + 1 := ⟨m - 1, by omega⟩
       simp (disch := omega) only [spec_ahGood.l0, if_pos, if_neg, w64]
       simp only [spec_ahGood.j2, Bool.false_eq_true, if_false]
       rw [if_pos hls, if_pos (by simp), if_pos (by simp), hd0, if_pos hbt, if_pos (by simp; omega), w64 (by omega) (by omega)]
       exact ih m (by omega)
      ·refine ev_rs 1 fun m hm => ?_
       obtain ⟨m, rfl⟩ : ∃ m', m = m' + 1 := ⟨m - 1, by omega⟩
       simp (disch := omega) only [spec_ahGood.l0, if_pos, if_neg, w64]
       simp only [spec_ahGood.j2, Bool.false_eq_true, if_false]
       rw [if_pos hls, if_pos (by simp), if_pos (by simp), hd0, if_neg hbt, tf_f (stop (by simpa using hbt))]
  ·exact out i op hi hlt h
theorem ahGood_any (l : List Int) (hn : l.length < 4611686018427387904) : (∃ K, ∀ k, K ≤ k → spec_ahGood.f k l = some (sysB l)) := by
 unfold sysB
 by_cases h2 : (l.length : Int) % 2 = 1
 ·refine ev_rs 0 fun m hm => ?_
  unfold spec_ahGood.f
  rw [if_pos h2, tf_f]
  ·simp [spec_ahGood.j0]
  ·intro h
   have := h.2.even (by omega)
   omega
 ·by_cases h12 : (l.length : Int) > 12
  ·refine ev_rs 0 fun m hm => ?_
   unfold spec_ahGood.f
   rw [if_neg h2, if_pos h12, tf_f]
   ·simp [spec_ahGood.j0]
   ·intro h; omega
  ·obtain ⟨K, h⟩ := l1All_any l hn 0 ((l.length : Int) - 1)
   by_cases hR : ∀ j : Int, 0 ≤ j → j < (l.length : Int) → 0 ≤ rd l j ∧ rd l j ≤ (l.length : Int) - 1
   ·obtain ⟨K2, h3⟩ := ahGood_l l (by omega) hR l.length 0 [] (by omega) (by omega) (by omega) (by simp) (.inl (.start _))
    refine ev_rs (K + K2) fun m hm => ?_
    unfold spec_ahGood.f
    rw [if_neg h2, if_neg h12, w64 (by omega) (by omega), h (m + 1) (by omega), tf_t hR]
    simp only [Option.bind_some, Bool.not_true, spec_ahGood.j0, Bool.false_eq_true, if_false]
    rw [h3 m (by omega)]
    exact congrArg _ (tf_c ⟨fun h => ⟨by omega, h⟩, fun h => h.2⟩)
   ·refine ev_rs K fun m hm => ?_
    unfold spec_ahGood.f
    rw [if_neg h2, if_neg h12, w64 (by omega) (by omega), h (m + 1) (by omega), tf_f hR, tf_f]
    ·simp [spec_ahGood.j0]
    ·intro s
     exact hR fun j h0 h1 => ⟨s.2.lo j h0 h1, by have := s.2.hi j h0 h1; omega⟩
theorem sysB_mem {l : List Int} (h : sysB l = true) : l.length / 2 < 7 ∧ l ∈ Pl.sysList (l.length / 2) := by
 have := tf_iff.1 h
 exact ⟨by omega, Pl.Sys.mem this.2 this.1⟩
theorem of_table {P : List Int → Bool} (h : ((List.range 7).all fun n => (Pl.sysList n).all P) = true) {l : List Int} (hl : sysB l = true) : P l = true := by
 obtain ⟨h7, hm⟩ := sysB_mem hl
 exact List.all_eq_true.1 (List.all_eq_true.1 h _ (List.mem_range.2 h7)) _ hm
theorem ev_at {α : Type} {g : Nat → Option α} {r : α} (hm : ∀ k, LeO (g k) (g (k + 1))) {K : Nat} (h : g K = some r) : (∃ K, ∀ k, K ≤ k → g k = some (r)) := ⟨K, fun k hk => at_rounds hm hk h⟩
theorem ev_all {α β : Type} {g : Nat → α → Option β} {r : α → β} : ∀ (L : List α), (∀ q ∈ L, (∃ K, ∀ k, K ≤ k → g k q = some (r q))) → ∃ K, ∀ q ∈ L, ∀ k, K ≤ k → g k q = some (r q)
 | [], _ => ⟨0, fun q hq => by cases hq⟩
 | x :: L, h => by
  obtain ⟨K1, h1⟩ := h x List.mem_cons_self
  obtain ⟨K2, h2⟩ := ev_all L (fun q hq => h q (List.mem_cons_of_mem _ hq))
  refine ⟨K1 + K2, fun q hq k hk => ?_⟩
  rcases List.mem_cons.1 hq with rfl | hq
  ·exact h1 k (by omega)
  ·exact h2 q hq k (by omega)
theorem ev_eq {α : Type} {g : Nat → Option α} {r s : α} (h1 : (∃ K, ∀ k, K ≤ k → g k = some (r))) (h2 : (∃ K, ∀ k, K ≤ k → g k = some (s))) : r = s := by
 obtain ⟨K1, h1⟩ := h1
 obtain ⟨K2, h2⟩ := h2
 have := h1 (K1 + K2) (by omega)
 rw [h2 (K1 + K2) (by omega)] at this
 exact (Option.some.inj this).symm
theorem sys_tab : ((List.range 7).all fun n => (Pl.sysList n).all fun p => impl_IsSystem.f 100 p == some true && decide (p.length = 2 * n)) = true := by decide +kernel
theorem sysB_of_mem {n : Nat} (hn : n < 7) {q : List Int} (hq : q ∈ Pl.sysList n) : sysB q = true ∧ q.length = 2 * n := by
 have h := List.all_eq_true.1 (List.all_eq_true.1 sys_tab n (List.mem_range.2 hn)) q hq
 rw [Bool.and_eq_true] at h
 have hl : q.length = 2 * n := of_decide_eq_true h.2
 exact ⟨(ev_eq (ev_at (fun k => impl_IsSystem.mono q k) (beq_iff_eq.1 h.1)) (IsSystem_any q (by omega))).symm, hl⟩
theorem sysB_len {l : List Int} (h : sysB l = true) : l.length = 2 * (l.length / 2) ∧ l.length / 2 < 7 := by
 obtain ⟨h7, hm⟩ := sysB_mem h
 exact ⟨(sysB_of_mem h7 hm).2, h7⟩
theorem L1_get (T : List (List Int)) (i : Nat) (h : i < T.length) : rd_L2 T (i : Int) = T[i] := by
 unfold rd_L2
 rw [Int.toNat_natCast, List.getD_eq_getElem?_getD, List.getElem?_eq_getElem h]; rfl
theorem systems_tab : ((List.range 7).all fun n => impl_systems.f 300 (n : Int) == some (Pl.sysList n)) = true := by decide +kernel
theorem systems_any (n : Int) (h0 : 0 ≤ n) (h6 : n ≤ 6) : (∃ K, ∀ k, K ≤ k → impl_systems.f k n = some (Pl.sysList n.toNat)) := by
 have h := List.all_eq_true.1 systems_tab n.toNat (List.mem_range.2 (by omega))
 rw [show ((n.toNat : Nat) : Int) = n by omega] at h
 exact ev_at (fun k => impl_systems.mono n k) (beq_iff_eq.1 h)
theorem ahAll_tab : ((List.range 7).all fun n => spec_ahAll.f 300 (n : Int) 0 == some (Pl.sysList n)) = true := by decide +kernel
theorem ahAll_any (n : Int) (h0 : 0 ≤ n) (h6 : n ≤ 6) : (∃ K, ∀ k, K ≤ k → spec_ahAll.f k n 0 = some (Pl.sysList n.toNat)) := by
 have h := List.all_eq_true.1 ahAll_tab n.toNat (List.mem_range.2 (by omega))
 rw [show ((n.toNat : Nat) : Int) = n by omega] at h
 exact ev_at (fun k => spec_ahAll.mono n 0 k) (beq_iff_eq.1 h)
def withR (n r : Int) : List Int × Bool := if 0 ≤ n ∧ n ≤ 6 then (if 0 ≤ r ∧ r < ((Pl.sysList n.toNat).length : Int) then (rd_L2 (Pl.sysList n.toNat) r, true) else ([], false)) else ([], false)
theorem ahCount_tab : ((List.range 7).all fun n => spec_ahCount.f 20 (n : Int) == some ((Pl.sysList n).length : Int)) = true := by decide +kernel
theorem ahCount_any (n : Int) (h0 : 0 ≤ n) (h6 : n ≤ 6) : (∃ K, ∀ k, K ≤ k → spec_ahCount.f k n = some (((Pl.sysList n.toNat).length : Int))) := by
 have h := List.all_eq_true.1 ahCount_tab n.toNat (List.mem_range.2 (by omega))
 rw [show ((n.toNat : Nat) : Int) = n by omega] at h
 exact ev_at (fun k => spec_ahCount.mono n k) (beq_iff_eq.1 h)
theorem sysList_len : ((List.range 7).all fun n => decide ((Pl.sysList n).length ≤ 132 ∧ 0 < (Pl.sysList n).length)) = true := by decide +kernel
theorem sysList_short {n : Nat} (h : n < 7) : (Pl.sysList n).length ≤ 132 ∧ 0 < (Pl.sysList n).length := of_decide_eq_true (List.all_eq_true.1 sysList_len n (List.mem_range.2 h))
theorem implWith_any (n r : Int) : (∃ K, ∀ k, K ≤ k → impl_SystemWith.f k n r = some (withR n r)) := by
 by_cases h : 0 ≤ n ∧ n ≤ 6
 ·obtain ⟨K, hK⟩ := systems_any n h.1 h.2
  obtain ⟨h1, h2⟩ := sysList_short (n := n.toNat) (by omega)
  refine ⟨K, fun k hk => ?_⟩
  unfold withR
  simp only [impl_SystemWith.f, impl_isArches.f, in_any, decide_eq_true h, hK k hk, Option.bind_some, if_true, if_pos h]
  rw [w64 (by omega) (by omega)]
  by_cases hr : 0 ≤ r ∧ r < ((Pl.sysList n.toNat).length : Int)
  ·rw [decide_eq_true (by omega : 0 ≤ r ∧ r ≤ ((Pl.sysList n.toNat).length : Int) - 1), if_pos rfl, if_pos hr.1, if_pos hr.2, if_pos hr]
  ·rw [decide_eq_false (by omega : ¬ (0 ≤ r ∧ r ≤ ((Pl.sysList n.toNat).length : Int) - 1)), if_neg (by simp), if_neg hr]
 ·refine ⟨0, fun k hk => ?_⟩
  unfold withR
  simp only [impl_SystemWith.f, impl_isArches.f, in_any, decide_eq_false h, Option.bind_some, Bool.false_eq_true, if_false, if_neg h]
theorem specWith_any (n r : Int) : (∃ K, ∀ k, K ≤ k → spec_SystemWith.f k n r = some (withR n r)) := by
 by_cases h : 0 ≤ n ∧ n ≤ 6
 ·obtain ⟨K, hK⟩ := ahAll_any n h.1 h.2
  obtain ⟨K2, hK2⟩ := ahCount_any n h.1 h.2
  obtain ⟨h1, h2⟩ := sysList_short (n := n.toNat) (by omega)
  refine ⟨K + K2, fun k hk => ?_⟩
  unfold withR
  simp only [spec_SystemWith.f, spec_ahArches.f, l1In_any, decide_eq_true h, hK k (by omega), hK2 k (by omega), Option.bind_some, if_true, if_pos h]
  rw [w64 (by omega) (by omega)]
  by_cases hr : 0 ≤ r ∧ r < ((Pl.sysList n.toNat).length : Int)
  ·rw [decide_eq_true (by omega : 0 ≤ r ∧ r ≤ ((Pl.sysList n.toNat).length : Int) - 1), if_pos rfl, if_pos hr.1, if_pos hr.2, if_pos hr]
  ·rw [decide_eq_false (by omega : ¬ (0 ≤ r ∧ r ≤ ((Pl.sysList n.toNat).length : Int) - 1)), if_neg (by simp), if_neg hr]
 ·refine ⟨0, fun k hk => ?_⟩
  unfold withR
  simp only [spec_SystemWith.f, spec_ahArches.f, l1In_any, decide_eq_false h, Option.bind_some, Bool.false_eq_true, if_false, if_neg h]
theorem withR_length (n r : Int) : (withR n r).1.length ≤ 1048576 := by
 unfold withR
 split
 ·split
  ·rename_i h hr
   have h1 : rd_L2 (Pl.sysList n.toNat) r ∈ Pl.sysList n.toNat := by
    have := List.getElem_mem (l := Pl.sysList n.toNat) (n := r.toNat) (by omega)
    rwa [← L1_get _ r.toNat (by omega), show ((r.toNat : Nat) : Int) = r by omega] at this
   have := (sysB_of_mem (n := n.toNat) (by omega) h1).2
   show (rd_L2 (Pl.sysList n.toNat) r).length ≤ 1048576
   omega
  ·simp
 ·simp
def rkI (n : Nat) (p : List Int) : Int := ((Pl.sysList n).idxOf p : Nat)
theorem rank_tab : ((List.range 7).all fun n => (Pl.sysList n).all fun p => (slices_BinarySearchFunc_int_int_int.f 40 (Pl.sysList n) p).map Prod.fst == some (rkI n p)) = true := by decide +kernel
theorem half_len (l : List Int) (h : l.length ≤ 1048576) : wrap64 ((l.length : Int) / 2) = ((l.length / 2 : Nat) : Int) := by rw [w64 (by omega) (by omega)]; omega
theorem rankOf_any {l : List Int} (h : sysB l = true) : (∃ K, ∀ k, K ≤ k → impl_rankOf.f k l = some (rkI (l.length / 2) l)) := by
 obtain ⟨h7, hm⟩ := sysB_mem h
 obtain ⟨he, _⟩ := sysB_len h
 obtain ⟨K1, h1⟩ := systems_any ((l.length / 2 : Nat) : Int) (by omega) (by omega)
 have h2 := beq_iff_eq.1 (List.all_eq_true.1 (List.all_eq_true.1 rank_tab _ (List.mem_range.2 h7)) l hm)
 obtain ⟨⟨a, b⟩, h3, h4⟩ := Option.map_eq_some_iff.1 h2
 obtain rfl : a = rkI (l.length / 2) l := h4
 refine ⟨K1 + 40, fun k hk => ?_⟩
 unfold impl_rankOf.f
 rw [half_len l (by omega), h1 k (by omega), Option.bind_some, Int.toNat_natCast, at_rounds (slices_BinarySearchFunc_int_int_int.mono _ _) (by omega : 40 ≤ k) h3, Option.bind_some]
theorem srank_tab : ((List.range 7).all fun n => (Pl.sysList n).all fun p => spec_ahRank.l0 200 p 0 (Pl.sysList n) ((Pl.sysList n).length : Int) 0 == some (rkI n p)) = true := by decide +kernel
theorem ahRank_any {l : List Int} (h : sysB l = true) : (∃ K, ∀ k, K ≤ k → spec_ahRank.f k l = some (rkI (l.length / 2) l)) := by
 obtain ⟨h7, hm⟩ := sysB_mem h
 obtain ⟨he, _⟩ := sysB_len h
 obtain ⟨K1, h1⟩ := ahAll_any ((l.length / 2 : Nat) : Int) (by omega) (by omega)
 have h2 := beq_iff_eq.1 (List.all_eq_true.1 (List.all_eq_true.1 srank_tab _ (List.mem_range.2 h7)) l hm)
 refine ⟨K1 + 200, fun k hk => ?_⟩
 unfold spec_ahRank.f
 rw [half_len l (by omega), h1 k (by omega), Option.bind_some, Int.toNat_natCast]
 exact at_rounds (fun k => spec_ahRank.mono_l k _ _ _ _ _) (by omega : 200 ≤ k) h2
noncomputable def rankR (l : List Int) : Int × Bool := if sysB l = true then (rkI (l.length / 2) l, true) else (0, false)
theorem implRank_any (l : List Int) (hn : l.length ≤ 1048576) : (∃ K, ∀ k, K ≤ k → impl_RankSystem.f k l = some (rankR l)) := by
 obtain ⟨K1, h1⟩ := IsSystem_any l (by omega)
 by_cases h : sysB l = true
 ·obtain ⟨K2, h2⟩ := rankOf_any h
  exact ⟨K1 + K2, fun k hk => by simp (disch := omega) only [impl_RankSystem.f, h1, h, h2, Option.bind_some, if_true, rankR]⟩
 ·have hb : sysB l = false := by cases e : sysB l <;> simp_all
  exact ⟨K1, fun k hk => by simp (disch := omega) only [impl_RankSystem.f, h1, hb, Option.bind_some, if_false, Bool.false_eq_true, rankR]⟩
noncomputable def nextR (l : List Int) : List Int × Bool := if sysB l = true then withR ((l.length / 2 : Nat) : Int) (rkI (l.length / 2) l + 1) else ([], false)
theorem rkI_le {l : List Int} (h : sysB l = true) : 0 ≤ rkI (l.length / 2) l ∧ rkI (l.length / 2) l ≤ 132 := by
 obtain ⟨h7, hm⟩ := sysB_mem h
 have h1 := sysList_short h7
 have h2 := List.idxOf_lt_length_iff.2 hm
 unfold rkI
 omega
theorem implNext_of {l : List Int} (hn : l.length ≤ 1048576) (h : sysB l = true) (q : Int) (h0 : 0 ≤ q) (h9 : q ≤ 132) (R : List Int × Bool) (hq : (∃ K, ∀ k, K ≤ k → impl_rankOf.f k l = some (q))) (hw : (∃ K, ∀ k, K ≤ k → impl_SystemWith.f k ((l.length / 2 : Nat) : Int) (q + 1) = some (R))) : (∃ K, ∀ k, K ≤ k → impl_NextSystem.f k l = some (R)) := by
 obtain ⟨K1, h1⟩ := IsSystem_any l (by omega)
 obtain ⟨K2, h2⟩ := hq
 obtain ⟨K3, h3⟩ := hw
 refine ⟨K1 + K2 + K3, fun k hk => ?_⟩
 show impl_NextSystem.f k l = some (R.1, R.2)
 unfold impl_NextSystem.f
 rw [h1 k (by omega), h, Option.bind_some, if_pos rfl, h2 k (by omega), Option.bind_some, half_len l hn, w64 (by omega) (by omega), h3 k (by omega), Option.bind_some]
theorem specNext_of {l : List Int} (hn : l.length ≤ 1048576) (h : sysB l = true) (q : Int) (h0 : 0 ≤ q) (h9 : q ≤ 132) (R : List Int × Bool) (hq : (∃ K, ∀ k, K ≤ k → spec_ahRank.f k l = some (q))) (hw : (∃ K, ∀ k, K ≤ k → spec_SystemWith.f k ((l.length / 2 : Nat) : Int) (q + 1) = some (R))) : (∃ K, ∀ k, K ≤ k → spec_NextSystem.f k l = some (R)) := by
 obtain ⟨K1, h1⟩ := ahGood_any l (by omega)
 obtain ⟨K2, h2⟩ := hq
 obtain ⟨K3, h3⟩ := hw
 refine ⟨K1 + K2 + K3, fun k hk => ?_⟩
 show spec_NextSystem.f k l = some (R.1, R.2)
 unfold spec_NextSystem.f
 rw [h1 k (by omega), h, Option.bind_some, if_pos rfl, h2 k (by omega), Option.bind_some, half_len l hn, w64 (by omega) (by omega), h3 k (by omega), Option.bind_some]
theorem nextR_pos {l : List Int} (h : sysB l = true) : nextR l = withR ((l.length / 2 : Nat) : Int) (rkI (l.length / 2) l + 1) := by unfold nextR; rw [if_pos h]
theorem nextR_neg {l : List Int} (h : sysB l = false) : nextR l = ([], false) := by unfold nextR; rw [if_neg (by rw [h]; simp)]
theorem implNext_any (l : List Int) (hn : l.length ≤ 1048576) : (∃ K, ∀ k, K ≤ k → impl_NextSystem.f k l = some (nextR l)) := by
 cases h : sysB l with
 | true => rw [nextR_pos h]; exact implNext_of hn h _ (rkI_le h).1 (rkI_le h).2 _ (rankOf_any h) (implWith_any _ _)
 | false =>
  obtain ⟨K1, h1⟩ := IsSystem_any l (by omega)
  rw [nextR_neg h]
  exact ⟨K1, fun k hk => by simp (disch := omega) only [impl_NextSystem.f, h1, h, Option.bind_some, if_false, Bool.false_eq_true]⟩
theorem specNext_any (l : List Int) (hn : l.length ≤ 1048576) : (∃ K, ∀ k, K ≤ k → spec_NextSystem.f k l = some (nextR l)) := by
 cases h : sysB l with
 | true => rw [nextR_pos h]; exact specNext_of hn h _ (rkI_le h).1 (rkI_le h).2 _ (ahRank_any h) (specWith_any _ _)
 | false =>
  obtain ⟨K1, h1⟩ := ahGood_any l (by omega)
  rw [nextR_neg h]
  exact ⟨K1, fun k hk => by simp (disch := omega) only [spec_NextSystem.f, h1, h, Option.bind_some, if_false, Bool.false_eq_true]⟩
theorem nextR_length (l : List Int) : (nextR l).1.length ≤ 1048576 := by
 cases h : sysB l with
 | true => rw [nextR_pos h]; exact withR_length _ _
 | false => rw [nextR_neg h]; simp
def pz : Nat → ByteArray → List Int → List Int → Int → Option (List Int × List Int)
 | 0, _, out, op, _ => some (out, op)
 | d + 1, s, out, op, i =>
  if bt s i = 40 then pz d s out (op ++ [i]) (i + 1)
  else if bt s i = 41 ∧ (op.length : Int) > 0 then
   pz d s ((out.set (rd op ((op.length : Int) - 1)).toNat i).set i.toNat (rd op ((op.length : Int) - 1))) (op.take (op.length - 1)) (i + 1)
  else none
def OpenOk (op : List Int) (i : Int) : Prop := (∀ x ∈ op, 0 ≤ x ∧ x < i) ∧ (op.length : Int) ≤ i
theorem OpenOk.push {op : List Int} {i : Int} (h : OpenOk op i) (h0 : 0 ≤ i) : OpenOk (op ++ [i]) (i + 1) := by
 refine ⟨fun x hx => ?_, by simp; exact h.2⟩
 rcases List.mem_append.1 hx with hx | hx
 ·have := h.1 x hx; omega
 ·have : x = i := by simpa using hx
  omega
theorem OpenOk.pop {op : List Int} {i : Int} (h : OpenOk op i) : OpenOk (op.take (op.length - 1)) (i + 1) := by
 refine ⟨fun x hx => ?_, by simp; have := h.2; omega⟩
 have := h.1 x (List.mem_of_mem_take hx); omega
theorem OpenOk.last {op : List Int} {i : Int} (h : OpenOk op i) (hl : (op.length : Int) > 0) : 0 ≤ rd op ((op.length : Int) - 1) ∧ rd op ((op.length : Int) - 1) < i :=
 h.1 _ (rd_mem op _ (by omega) (by omega))
def pzOut : Option (List Int × List Int) → List Int × Bool
 | none => ([], false)
 | some (o, op) => if op.length = 0 then (o, true) else ([], false)
def pzImpl : Option (List Int × List Int) → List Int × Bool
 | none => ([], false)
 | some (o, op) => (o, decide (op.length = 0))
theorem pz_length (s : ByteArray) (d : Nat) : ∀ (out op : List Int) (i : Int) o p, pz d s out op i = some (o, p) → o.length = out.length := by
 induction d with
 | zero => intro out op i o p h; simp [pz] at h; rw [h.1]
 | succ d ih =>
  intro out op i o p h
  unfold pz at h
  split at h
  ·exact ih _ _ _ _ _ h
  ·split at h
   ·have := ih _ _ _ _ _ h
    simpa using this
   ·cases h
theorem ahParse_l (s : ByteArray) (hs : s.size ≤ 1048576) (d : Nat) : ∀ (out op : List Int) (i : Int), 0 ≤ i → (s.size : Int) = i + d → out.length = s.size → OpenOk op i →
  (∃ K, ∀ k, K ≤ k → spec_ahParse.l0 k s out op i = some (pzOut (pz d s out op i))) := by
 induction d with
 | zero =>
  intro out op i h0 hd ho hop
  refine ev_rs 0 fun m _ => ?_
  simp (disch := omega) only [spec_ahParse.l0, if_neg, pz, pzOut]
  by_cases h : (op.length : Int) > 0
  ·rw [if_pos h, if_neg (by omega)]
  ·rw [if_neg h, if_pos (by omega)]
 | succ d ih =>
  intro out op i h0 hd ho hop
  have hol := hop.2
  by_cases h40 : bt s i = 40
  ·obtain ⟨K, ih⟩ := ih out (op ++ [i]) (i + 1) (by omega) (by omega) ho (hop.push h0)
   refine ev_rs K fun m hm => ?_
   simp (disch := omega) only [spec_ahParse.l0, if_pos, if_neg, w64, pz]
   exact ih m hm
  ·by_cases h41 : bt s i = 41 ∧ (op.length : Int) > 0
   ·obtain ⟨g0, g1⟩ := hop.last h41.2
    obtain ⟨K, ih⟩ := ih ((out.set (rd op ((op.length : Int) - 1)).toNat i).set i.toNat (rd op ((op.length : Int) - 1))) (op.take (op.length - 1)) (i + 1) (by omega) (by omega) (by simpa using ho) hop.pop
    refine ev_rs K fun m hm => ?_
    have e : ((op.length : Int) - 1).toNat = op.length - 1 := by omega
    simp (disch := omega) only [spec_ahParse.l0, if_pos, if_neg, w64, pz]
    rw [e]
    exact ih m hm
   ·refine ev_rs 0 fun m hm => ?_
    simp (disch := omega) only [spec_ahParse.l0, if_pos, if_neg, w64, pz, pzOut]
    simp
theorem ahParse_any (s : ByteArray) (hs : s.size ≤ 1048576) : (∃ K, ∀ k, K ≤ k → spec_ahParse.f k s = some (if (s.size : Int) > 12 then ([], false) else pzOut (pz s.size s (List.replicate s.size 0) [] 0))) := by
 obtain ⟨K, h⟩ := ahParse_l s hs s.size (List.replicate s.size 0) [] 0 (by omega) (by omega) (by simp) ⟨by simp, by simp⟩
 refine ⟨K, fun k hk => ?_⟩
 unfold spec_ahParse.f
 split
 ·rfl
 ·rw [if_pos (by omega), if_pos (by omega)]
  simpa using h k hk
theorem parseSystem_l (s : ByteArray) (hs : s.size ≤ 1048576) (d : Nat) : ∀ (out op : List Int) (i : Int), 0 ≤ i → (s.size : Int) = i + d → out.length = s.size → OpenOk op i →
  (∃ K, ∀ k, K ≤ k → impl_parseSystem.l0 k s out op s.size i = some (pzImpl (pz d s out op i))) := by
 induction d with
 | zero =>
  intro out op i h0 hd ho hop
  refine ev_rs 0 fun m _ => ?_
  simp (disch := omega) only [impl_parseSystem.l0, if_neg, pz, pzImpl]
  congr 2
  by_cases h : op.length = 0
  ·simp [h]
  ·simp [h]
 | succ d ih =>
  intro out op i h0 hd ho hop
  have hol := hop.2
  by_cases h40 : bt s i = 40
  ·obtain ⟨K, ih⟩ := ih out (op ++ [i]) (i + 1) (by omega) (by omega) ho (hop.push h0)
   refine ev_rs K fun m hm => ?_
   simp (disch := omega) only [impl_parseSystem.l0, if_pos, if_neg, w64, pz]
   exact ih m hm
  ·by_cases h41 : bt s i = 41 ∧ (op.length : Int) > 0
   ·obtain ⟨g0, g1⟩ := hop.last h41.2
    obtain ⟨K, ih⟩ := ih ((out.set (rd op ((op.length : Int) - 1)).toNat i).set i.toNat (rd op ((op.length : Int) - 1))) (op.take (op.length - 1)) (i + 1) (by omega) (by omega) (by simpa using ho) hop.pop
    refine ev_rs K fun m hm => ?_
    have e : ((op.length : Int) - 1).toNat = op.length - 1 := by omega
    simp (disch := omega) only [impl_parseSystem.l0, if_pos, if_neg, w64, pz]
    rw [e]
    rw [List.set_comm _ _ (by omega)]
    exact ih m hm
   ·refine ev_rs 0 fun m hm => ?_
    simp (disch := omega) only [impl_parseSystem.l0, if_pos, if_neg, w64, pz, pzImpl]
    simp
theorem parseSystem_any (s : ByteArray) (hs : s.size ≤ 1048576) : (∃ K, ∀ k, K ≤ k → impl_parseSystem.f k s = some (pzImpl (pz s.size s (List.replicate s.size 0) [] 0))) := by
 obtain ⟨K, h⟩ := parseSystem_l s hs s.size (List.replicate s.size 0) [] 0 (by omega) (by omega) (by simp) ⟨by simp, by simp⟩
 refine ⟨K, fun k hk => ?_⟩
 unfold impl_parseSystem.f
 rw [if_pos (by omega), if_pos (by omega)]
 simpa using h k hk
theorem pz_both (x : Option (List Int × List Int)) : (if (pzImpl x).2 = true then ((pzImpl x).1, true) else ([], false)) = pzOut x := by
 rcases x with _ | ⟨o, op⟩
 ·rfl
 ·by_cases h : op.length = 0 <;> simp [pzImpl, pzOut, h]
def parsed (s : ByteArray) : List Int × Bool := if (s.size : Int) > 12 then ([], false) else pzOut (pz s.size s (List.replicate s.size 0) [] 0)
theorem parsed_length (s : ByteArray) : (parsed s).1.length ≤ 12 := by
 unfold parsed
 split
 ·simp
 ·cases h : pz s.size s (List.replicate s.size 0) [] 0 with
  | none => simp [pzOut]
  | some x =>
   have := pz_length _ _ _ _ _ _ _ h
   unfold pzOut
   simp only
   split
   ·simp at this; simp; omega
   ·simp
def sysD (l : List Int) : Bool := (List.range l.length).all fun i => decide (0 ≤ rd l (i : Nat)) && decide (rd l (i : Nat) < (l.length : Nat)) && !(rd l (i : Nat) == ((i : Nat) : Int)) && (rd l (rd l (i : Nat)) == ((i : Nat) : Int)) &&
 (List.range l.length).all fun b => !(decide (i < b)) || !(decide (((b : Nat) : Int) < rd l (i : Nat))) || (decide (((i : Nat) : Int) ≤ rd l (b : Nat)) && decide (rd l (b : Nat) ≤ rd l (i : Nat)))
theorem sysD_sysB {l : List Int} (hl : l.length ≤ 12) (h : sysD l = true) : sysB l = true := by
 have H : ∀ i : Nat, i < l.length → (0 ≤ rd l (i : Nat) ∧ rd l (i : Nat) < (l.length : Nat) ∧ rd l (i : Nat) ≠ ((i : Nat) : Int) ∧ rd l (rd l (i : Nat)) = ((i : Nat) : Int)) ∧
   ∀ b : Nat, b < l.length → i < b → ((b : Nat) : Int) < rd l (i : Nat) → ((i : Nat) : Int) ≤ rd l (b : Nat) ∧ rd l (b : Nat) ≤ rd l (i : Nat) := by
  intro i hi
  have g := List.all_eq_true.1 h i (List.mem_range.2 hi)
  simp only [Bool.and_eq_true, decide_eq_true_eq, beq_iff_eq, Bool.not_eq_true', beq_eq_false_iff_ne, List.all_eq_true, List.mem_range, Bool.or_eq_true, decide_eq_false_iff_not] at g
  obtain ⟨⟨⟨⟨g1, g2⟩, g3⟩, g4⟩, g5⟩ := g
  refine ⟨⟨g1, g2, g3, g4⟩, fun b hb h1 h2 => ?_⟩
  rcases g5 b hb with (h | h) | h
  ·exact absurd h1 h
  ·exact absurd h2 h
  ·exact h
 unfold sysB
 refine tf_t ⟨hl, ?_⟩
 have N : ∀ i : Int, 0 ≤ i → i < (l.length : Nat) → ∃ n : Nat, i = (n : Int) ∧ n < l.length := fun i h0 h1 => ⟨i.toNat, by omega, by omega⟩
 constructor
 ·intro i h0 h1; obtain ⟨n, rfl, hn⟩ := N i h0 h1; exact (H n hn).1.1
 ·intro i h0 h1; obtain ⟨n, rfl, hn⟩ := N i h0 h1; exact (H n hn).1.2.1
 ·intro i h0 h1; obtain ⟨n, rfl, hn⟩ := N i h0 h1; exact (H n hn).1.2.2.1
 ·intro i h0 h1; obtain ⟨n, rfl, hn⟩ := N i h0 h1; exact (H n hn).1.2.2.2
 ·intro a b h0 h1 h2 h3
  obtain ⟨n, rfl, hn⟩ := N a h0 h1
  have := (H n hn).1.2.1
  obtain ⟨c, rfl, hc⟩ := N b (by omega) (by omega)
  exact (H n hn).2 c hc (by omega) h3
def chk : Nat → List Int → List Int → Int → Bool
 | 0, out, op, _ => !(op.length == 0) || sysD out
 | d + 1, out, op, i => chk d out (op ++ [i]) (i + 1) &&
   (op.length == 0 || chk d ((out.set (rd op ((op.length : Int) - 1)).toNat i).set i.toNat (rd op ((op.length : Int) - 1))) (op.take (op.length - 1)) (i + 1))
theorem chk_pz (s : ByteArray) (d : Nat) : ∀ (out op : List Int) (i : Int) (o p : List Int), chk d out op i = true → pz d s out op i = some (o, p) → p.length = 0 → sysD o = true := by
 induction d with
 | zero =>
  intro out op i o p hc h hp
  unfold pz at h
  obtain ⟨rfl, rfl⟩ := Prod.mk.inj (Option.some.inj h)
  unfold chk at hc
  rw [hp] at hc
  simpa using hc
 | succ d ih =>
  intro out op i o p hc h hp
  unfold chk at hc
  rw [Bool.and_eq_true, Bool.or_eq_true] at hc
  unfold pz at h
  split at h
  ·exact ih _ _ _ _ _ hc.1 h hp
  ·split at h
   ·rename_i e
    rcases hc.2 with g | g
    ·have := beq_iff_eq.1 g; omega
    ·exact ih _ _ _ _ _ g h hp
   ·cases h
theorem chk_all : ((List.range 13).all fun n => chk n (List.replicate n 0) [] 0) = true := by decide +kernel
theorem parsed_sys (s : ByteArray) (h : (parsed s).2 = true) : sysB (parsed s).1 = true ∧ (parsed s).1.length = s.size := by
 unfold parsed at *
 split at h
 ·cases h
 ·rename_i hs
  rw [if_neg hs]
  have hc := List.all_eq_true.1 chk_all s.size (List.mem_range.2 (by omega))
  cases e : pz s.size s (List.replicate s.size 0) [] 0 with
  | none => rw [e] at h; cases h
  | some x =>
   obtain ⟨o, p⟩ := x
   rw [e] at h
   have hl := pz_length _ _ _ _ _ _ _ e
   rw [List.length_replicate] at hl
   by_cases hp : p.length = 0
   ·have hd := chk_pz s s.size _ _ _ _ _ hc e hp
    simp only [pzOut, if_pos hp]
    exact ⟨sysD_sysB (by omega) hd, hl⟩
   ·simp only [pzOut, if_neg hp] at h
    cases h
theorem ParseSystem_any (s : ByteArray) (hs : s.size ≤ 1048576) : (∃ K, ∀ k, K ≤ k → impl_ParseSystem.f k s = some (parsed s)) := by
 obtain ⟨K, h⟩ := parseSystem_any s hs
 refine ⟨K, fun k hk => ?_⟩
 unfold impl_ParseSystem.f parsed
 rw [h k hk, Option.bind_some, ← pz_both]
 by_cases h12 : (s.size : Int) > 12
 ·simp only [if_pos h12]; split <;> rfl
 ·simp only [if_neg h12]; split <;> rfl
theorem specParse_any (s : ByteArray) (hs : s.size ≤ 1048576) : (∃ K, ∀ k, K ≤ k → spec_ParseSystem.f k s = some (parsed s)) := by
 obtain ⟨K, h⟩ := ahParse_any s hs
 rw [← parsed] at h
 exact ⟨K, fun k hk => by unfold spec_ParseSystem.f; rw [h k hk, Option.bind_some]⟩
def letters (l : List Int) : List Int := (List.range l.length).map fun i => if ((i : Nat) : Int) < rd l (i : Nat) then 40 else 41
def chkT : Nat → List Int → List Int → Int → List Int → Bool
 | 0, out, op, _, cs => !(op.length == 0) || (letters out == cs)
 | d + 1, out, op, i, cs => chkT d out (op ++ [i]) (i + 1) (cs ++ [40]) &&
   (op.length == 0 || chkT d ((out.set (rd op ((op.length : Int) - 1)).toNat i).set i.toNat (rd op ((op.length : Int) - 1))) (op.take (op.length - 1)) (i + 1) (cs ++ [41]))
theorem range_map_succ (f : Nat → Int) (d : Nat) : (List.range (d + 1)).map f = f 0 :: (List.range d).map (fun j => f (j + 1)) := by
 rw [List.range_succ_eq_map, List.map_cons, List.map_map]; rfl
theorem chkT_pz (s : ByteArray) (d : Nat) : ∀ (out op : List Int) (i : Nat) (cs o p : List Int), chkT d out op (i : Int) cs = true → pz d s out op (i : Int) = some (o, p) → p.length = 0 → letters o = cs ++ (List.range d).map (fun j => bt s ((i + j : Nat) : Int)) := by
 induction d with
 | zero =>
  intro out op i cs o p hc h hp
  unfold pz at h
  obtain ⟨rfl, rfl⟩ := Prod.mk.inj (Option.some.inj h)
  unfold chkT at hc
  rw [hp] at hc
  simpa using hc
 | succ d ih =>
  intro out op i cs o p hc h hp
  unfold chkT at hc
  rw [Bool.and_eq_true, Bool.or_eq_true] at hc
  unfold pz at h
  have hs : (fun j => bt s ((i + (j + 1) : Nat) : Int)) = (fun j => bt s (((i + 1) + j : Nat) : Int)) := by
   funext j; congr 1; omega
  rw [range_map_succ, hs]
  rw [show ((i : Int) + 1) = ((i + 1 : Nat) : Int) by omega] at hc h
  split at h
  ·rename_i e
   rw [ih _ _ _ _ _ _ hc.1 h hp, List.append_assoc, ← e]
   rfl
  ·split at h
   ·rename_i e
    rcases hc.2 with g | g
    ·have := beq_iff_eq.1 g; omega
    ·rw [ih _ _ _ _ _ _ g h hp, List.append_assoc, ← e.1]
     rfl
   ·cases h
theorem chkT_all : ((List.range 13).all fun n => chkT n (List.replicate n 0) [] 0 []) = true := by decide +kernel
theorem parsed_letters (s : ByteArray) (h : (parsed s).2 = true) : letters (parsed s).1 = (List.range s.size).map (fun j => bt s ((j : Nat) : Int)) := by
 unfold parsed at *
 split at h
 ·cases h
 ·rename_i hs
  rw [if_neg hs]
  have hc := List.all_eq_true.1 chkT_all s.size (List.mem_range.2 (by omega))
  cases e : pz s.size s (List.replicate s.size 0) [] 0 with
  | none => rw [e] at h; cases h
  | some x =>
   obtain ⟨o, p⟩ := x
   rw [e] at h
   by_cases hp : p.length = 0
   ·have hd := chkT_pz s s.size _ _ 0 _ _ _ hc e hp
    simp only [pzOut, if_pos hp]
    rw [hd, List.nil_append]
    congr 1
    funext j; congr 1; omega
   ·simp only [pzOut, if_neg hp] at h
    cases h
theorem size_data (s : ByteArray) : s.data.toList.length = s.size := Array.length_toList
theorem bt_data (s : ByteArray) (i : Nat) (h : i < s.data.toList.length) : bt s (i : Int) = ((s.data.toList[i]).toNat : Int) := by
 have hs : i < s.size := by rw [← size_data]; exact h
 unfold bt
 rw [dif_pos (show ((i : Nat) : Int).toNat < s.size by omega)]
 rfl
theorem son_size (l : List Int) : (strOfNums l).size = l.length := by
 rw [← size_data]; simp [strOfNums]
theorem ba_ext {a b : ByteArray} (h : a.data.toList = b.data.toList) : a = b := by
 rcases a with ⟨⟨a⟩⟩
 rcases b with ⟨⟨b⟩⟩
 have : a = b := h
 rw [this]
def txI (l : List Int) : ByteArray := ((impl_SystemText.f 200 l).getD (⟨#[]⟩, false)).1
def txOk (l : List Int) : Bool := decide (impl_SystemText.f 200 l = some (txI l, true)) && decide ((txI l).size ≤ 12) && decide (impl_ParseSystem.f 100 (txI l) = some (l, true)) && decide ((txI l).data.toList.map (fun b => ((b.toNat : Nat) : Int)) = letters l)
theorem txOk_table : ((List.range 7).all fun n => (Pl.sysList n).all txOk) = true := by decide +kernel
theorem bytes_map (s : ByteArray) : (List.range s.size).map (fun j => bt s ((j : Nat) : Int)) = s.data.toList.map (fun b => ((b.toNat : Nat) : Int)) := by
 have hl : s.data.toList.length = s.size := Array.length_toList
 refine List.ext_getElem (by simp [hl]) fun i h1 h2 => ?_
 simp only [List.getElem_map, List.getElem_range]
 exact bt_data s i (by simpa using h2)
theorem text_of_parsed (s : ByteArray) (h : (parsed s).2 = true) : txI (parsed s).1 = s := by
 have t := of_table txOk_table (parsed_sys s h).1
 unfold txOk at t
 simp only [Bool.and_eq_true, decide_eq_true_eq] at t
 have e := t.2.trans ((parsed_letters s h).trans (bytes_map s))
 refine ba_ext ?_
 have inj : ∀ (x y : List UInt8), x.map (fun b => ((b.toNat : Nat) : Int)) = y.map (fun b => ((b.toNat : Nat) : Int)) → x = y := by
  intro x
  induction x with
  | nil => intro y hy; cases y with
   | nil => rfl
   | cons b y => simp at hy
  | cons a x ih => intro y hy; cases y with
   | nil => simp at hy
   | cons b y =>
    simp only [List.map_cons, List.cons.injEq] at hy
    rw [ih y hy.2, UInt8.toNat_inj.1 (by omega : a.toNat = b.toNat)]
 exact inj _ _ e
theorem sSame_l (a : List Int) (hn : a.length < 4611686018427387904) (d : Nat) : ∀ i : Int, 0 ≤ i → (a.length : Int) - i ≤ d → (∃ K, ∀ k, K ≤ k → laws_sSame.l0 k a a (a.length : Int) i = some (true)) := by
 induction d with
 | zero =>
  intro i h0 hd
  refine ev_rs 0 fun m _ => ?_
  simp (disch := omega) only [laws_sSame.l0, if_neg]
 | succ d ih =>
  intro i h0 hd
  by_cases hlt : i < (a.length : Int)
  ·obtain ⟨K, ih⟩ := ih (i + 1) (by omega) (by omega)
   refine ev_rs K fun m hm => ?_
   simp (disch := omega) only [laws_sSame.l0, if_pos, w64, ih m hm, if_true]
  ·refine ev_rs 0 fun m _ => ?_
   simp (disch := omega) only [laws_sSame.l0, if_neg]
theorem sSame_any (a : List Int) (hn : a.length ≤ 35184372088832) : (∃ K, ∀ k, K ≤ k → laws_sSame.f k a a = some (true)) := by
 obtain ⟨K, h⟩ := sSame_l a (by omega) a.length 0 (by omega) (by omega)
 refine ⟨K, fun k hk => ?_⟩
 unfold laws_sSame.f
 rw [if_pos rfl, h k hk]
theorem big_any (a b : List Int) (ha : a.length ≤ 1048576) (hb : (b.length : Int) ≤ 1048576 - a.length) : laws_big.f a b = some false := by
 unfold laws_big.f
 rw [if_neg (by omega), w64 (by omega) (by omega)]
 congr 1
 exact decide_eq_false (by omega)
theorem big_yes (a b : List Int) (h : ¬ (a.length ≤ 1048576 ∧ (b.length : Int) ≤ 1048576 - a.length)) : laws_big.f a b = some true := by
 unfold laws_big.f
 by_cases h1 : (a.length : Int) > 1048576
 ·rw [if_pos h1]
 ·rw [if_neg h1, w64 (by omega) (by omega)]
  congr 1
  exact decide_eq_true (by omega)
theorem wrap_u64 (n : Int) : IntKind.u64.wrap n = n % 18446744073709551616 := by simp [IntKind.wrap, IntKind.bits, IntKind.signed]
theorem and255 (y : Int) : 0 ≤ Go.bits .and .u64 ((IntKind.u64.wrap y) / 1099511627776) 255 ∧ Go.bits .and .u64 ((IntKind.u64.wrap y) / 1099511627776) 255 < 256 := by
 rw [wrap_u64]
 have h := Go.bits_mask .u64 64 (by decide) (fun n h0 h1 => by rw [wrap_u64]; omega) 8 (by decide) (y % 18446744073709551616 / 1099511627776) (by omega) (by omega)
 rw [show (2 : Int) ^ 8 - 1 = 255 by decide, show (2 : Int) ^ 8 = 256 by decide] at h
 rw [h]; omega
def Bys (c : List Int) : Prop := c.length ≤ 1048576 ∧ ∀ x ∈ c, 0 ≤ x ∧ x < 256
theorem bys_of {c : List Int} (hl : c.length ≤ 1048576) (h : ∀ x ∈ c, (Lit.int .u8 x).wf = true) : Bys c := by
 refine ⟨hl, fun x hx => ?_⟩
 have := h x hx
 simp [Lit.wf, IntKind.min, IntKind.max, IntKind.bits, IntKind.signed] at this
 omega
theorem bindE {α β : Type} {x : Option α} {f : α → Option β} {a : α} {r : Option β} (h : x = some a) (h2 : f a = r) : x.bind f = r := by rw [h]; exact h2
theorem next_any {c : List Int} (hc : Bys c) (a s : Int) (h0 : 0 ≤ a) (h1 : a ≤ 4000000000000000000) : ∃ r s', spec_l1Cur_next.f c a s = some (r, a + 1, s') ∧ 0 ≤ r ∧ r < 256 := by
 have hl := hc.1
 unfold spec_l1Cur_next.f
 rw [w64 (x := a + 1) (by omega) (by omega)]
 by_cases h : a < (c.length : Int)
 ·have hm := hc.2 _ (rd_mem c a h0 h)
  rw [if_pos h, if_pos h0, if_pos (by omega), w64 (x := rd c a) (by omega) (by omega)]
  exact ⟨_, _, rfl, hm.1, hm.2⟩
 ·rw [if_neg h, if_neg (by omega)]
  refine ⟨_, _, rfl, ?_⟩
  have hb := and255 (IntKind.u64.wrap (IntKind.u64.wrap (s * 6364136223846793005)) + 1442695040888963407)
  rw [w64 (by omega) (by omega)]
  exact hb
theorem pick_any {c : List Int} (hc : Bys c) (a s n : Int) (h0 : 0 ≤ a) (h1 : a ≤ 4000000000000000000) (hn : 1 ≤ n) (hn2 : n ≤ 200) :
  ∃ r a' s', spec_l1Cur_pick.f c a s n = some (r, a', s') ∧ 0 ≤ r ∧ r < n ∧ a ≤ a' ∧ a' ≤ a + 1 := by
 unfold spec_l1Cur_pick.f
 by_cases h : n ≤ 1
 ·rw [if_pos h]; exact ⟨0, a, s, rfl, by omega, by omega, by omega, by omega⟩
 ·obtain ⟨r, s', e, hr0, hr1⟩ := next_any hc a s h0 h1
  rw [if_neg h, e, Option.bind_some, if_neg (by omega), if_neg (by omega)]
  refine ⟨Int.tmod r n, a + 1, s', rfl, ?_, ?_, by omega, by omega⟩
  ·exact Int.tmod_nonneg _ hr0
  ·exact Int.tmod_lt_of_pos _ (by omega)
theorem one_any {c : List Int} (hc : Bys c) (a s n : Int) (h0 : 0 ≤ a) (h1 : a ≤ 4000000000000000000) (hn : 1 ≤ n) (hn2 : n ≤ 200) :
  ∃ r a' s', spec_l1Cur_one.f c a s n = some (r, a', s') ∧ a ≤ a' ∧ a' ≤ a + 1 := by
 obtain ⟨r, a', s', e, _, _, h2, h3⟩ := pick_any hc a s n h0 h1 hn hn2
 unfold spec_l1Cur_one.f
 rw [e, Option.bind_some]
 exact ⟨_, _, _, rfl, h2, h3⟩
theorem size_push1 (t : ByteArray) (b : UInt8) : (t ++ (⟨#[b]⟩ : ByteArray)).size = t.size + 1 := by rw [ByteArray.size_append]; rfl
theorem sure_l {c : List Int} (hc : Bys c) (n : Int) (hn0 : 0 ≤ n) (hn : n ≤ 6) (d : Nat) : ∀ (t : ByteArray) (o lf i a s : Int), 0 ≤ i → i ≤ 2 * n → 2 * n - i ≤ d → (t.size : Int) = i → -i ≤ o → o ≤ i →
  0 ≤ lf → lf ≤ n → 0 ≤ a → a + (2 * n - i) ≤ 4000000000000000000 →
  ∃ p a' s', (∃ K, ∀ k, K ≤ k → spec_l1Cur_sure.l0 k n t o lf i c a s = some ((p, a', s'))) ∧ p.length ≤ 12 ∧ a ≤ a' ∧ a' ≤ a + (2 * n - i) := by
 have fin : ∀ (t : ByteArray) (o lf i a s : Int), i = 2 * n → (t.size : Int) = i → ∃ p a' s', (∃ K, ∀ k, K ≤ k → spec_l1Cur_sure.l0 k n t o lf i c a s = some ((p, a', s'))) ∧ p.length ≤ 12 ∧ a ≤ a' ∧ a' ≤ a + (2 * n - i) := by
  intro t o lf i a s hi ht
  obtain ⟨K, h⟩ := ahParse_any t (by omega)
  refine ⟨_, a, s, ev_rs K fun m hm => ?_, parsed_length t, by omega, by omega⟩
  rw [← parsed] at h
  simp (disch := omega) only [spec_l1Cur_sure.l0, if_neg, w64, h m hm, Option.bind_some]
 induction d with
 | zero => intro t o lf i a s hi0 hi hd ht ho1 ho2 hl0 hl1 ha hb; exact fin t o lf i a s (by omega) ht
 | succ d ih =>
  intro t o lf i a s hi0 hi hd ht ho1 ho2 hl0 hl1 ha hb
  by_cases hlt : i < 2 * n
  ·by_cases hp : lf > 0
   ·by_cases hz : o = 0
    ·obtain ⟨p, a', s', ⟨K, h⟩, q1, q2, q3⟩ := ih (t ++ (⟨#[40]⟩ : ByteArray)) (o + 1) (lf - 1) (i + 1) a s (by omega) (by omega) (by omega) (by rw [size_push1]; omega) (by omega) (by omega) (by omega) (by omega) ha (by omega)
     refine ⟨p, a', s', ev_rs K fun m hm => ?_, q1, q2, by omega⟩
     simp (disch := omega) only [spec_l1Cur_sure.l0, if_pos, w64]
     exact h m hm
    ·obtain ⟨b, a1, s1, e, q4, q5⟩ := one_any hc a s 2 ha (by omega) (by omega) (by omega)
     cases b with
     | true =>
      obtain ⟨p, a', s', ⟨K, h⟩, q1, q2, q3⟩ := ih (t ++ (⟨#[40]⟩ : ByteArray)) (o + 1) (lf - 1) (i + 1) a1 s1 (by omega) (by omega) (by omega) (by rw [size_push1]; omega) (by omega) (by omega) (by omega) (by omega) (by omega) (by omega)
      refine ⟨p, a', s', ev_rs K fun m hm => ?_, q1, by omega, by omega⟩
      simp (disch := omega) only [spec_l1Cur_sure.l0, if_pos, if_neg, w64, e, Option.bind_some]
      exact h m hm
     | false =>
      obtain ⟨p, a', s', ⟨K, h⟩, q1, q2, q3⟩ := ih (t ++ (⟨#[41]⟩ : ByteArray)) (o - 1) lf (i + 1) a1 s1 (by omega) (by omega) (by omega) (by rw [size_push1]; omega) (by omega) (by omega) (by omega) (by omega) (by omega) (by omega)
      refine ⟨p, a', s', ev_rs K fun m hm => ?_, q1, by omega, by omega⟩
      simp (disch := omega) only [spec_l1Cur_sure.l0, if_pos, if_neg, w64, e, Option.bind_some, Bool.false_eq_true, if_false]
      exact h m hm
   ·obtain ⟨p, a', s', ⟨K, h⟩, q1, q2, q3⟩ := ih (t ++ (⟨#[41]⟩ : ByteArray)) (o - 1) lf (i + 1) a s (by omega) (by omega) (by omega) (by rw [size_push1]; omega) (by omega) (by omega) (by omega) (by omega) ha (by omega)
    refine ⟨p, a', s', ev_rs K fun m hm => ?_, q1, q2, by omega⟩
    simp (disch := omega) only [spec_l1Cur_sure.l0, if_pos, if_neg, w64]
    exact h m hm
  ·exact fin t o lf i a s (by omega) ht
theorem sure_any {c : List Int} (hc : Bys c) (a s n : Int) (h0 : 0 ≤ a) (h1 : a ≤ 3000000000000000000) (hn0 : 0 ≤ n) (hn : n ≤ 6) :
  ∃ p a' s', (∃ K, ∀ k, K ≤ k → spec_l1Cur_sure.f k c a s n = some ((p, a', s'))) ∧ p.length ≤ 12 ∧ a ≤ a' ∧ a' ≤ a + 12 := by
 obtain ⟨p, a', s', h, q1, q2, q3⟩ := sure_l hc n hn0 hn (2 * n).toNat (⟨#[]⟩ : ByteArray) 0 n 0 a s (by omega) (by omega) (by omega) rfl (by omega) (by omega) hn0 (by omega) h0 (by omega)
 exact ⟨p, a', s', h, q1, q2, by omega⟩
theorem flat_draw : ((List.range 8).all fun n => match spec_ahFlat.f 60 (n : Nat) with | some l => decide (l.length ≤ 14) | none => false) = true := by decide +kernel
theorem rainbow_draw : ((List.range 8).all fun n => match spec_ahRainbow.f 60 (n : Nat) with | some l => decide (l.length ≤ 14) | none => false) = true := by decide +kernel
theorem flat_d (n : Int) (h0 : 0 ≤ n) (h : n < 8) : ∃ l, (∃ K, ∀ k, K ≤ k → spec_ahFlat.f k n = some (l)) ∧ l.length ≤ 14 := by
 have q := List.all_eq_true.1 flat_draw n.toNat (List.mem_range.2 (by omega))
 rw [show ((n.toNat : Nat) : Int) = n by omega] at q
 cases e : spec_ahFlat.f 60 n with
 | none => rw [e] at q; cases q
 | some l => rw [e] at q; exact ⟨l, ⟨60, fun k hk => at_rounds (fun k => spec_ahFlat.mono n k) hk e⟩, of_decide_eq_true q⟩
theorem rainbow_d (n : Int) (h0 : 0 ≤ n) (h : n < 8) : ∃ l, (∃ K, ∀ k, K ≤ k → spec_ahRainbow.f k n = some (l)) ∧ l.length ≤ 14 := by
 have q := List.all_eq_true.1 rainbow_draw n.toNat (List.mem_range.2 (by omega))
 rw [show ((n.toNat : Nat) : Int) = n by omega] at q
 cases e : spec_ahRainbow.f 60 n with
 | none => rw [e] at q; cases q
 | some l => rw [e] at q; exact ⟨l, ⟨60, fun k hk => at_rounds (fun k => spec_ahRainbow.mono n k) hk e⟩, of_decide_eq_true q⟩
theorem system_any {c : List Int} (hc : Bys c) (a s n : Int) (h0 : 0 ≤ a) (h1 : a ≤ 2000000000000000000) (hn0 : 0 ≤ n) (hn : n ≤ 6) :
  ∃ p a' s', (∃ K, ∀ k, K ≤ k → spec_l1Cur_system.f k c a s n = some ((p, a', s'))) ∧ p.length ≤ 14 ∧ a ≤ a' ∧ a' ≤ a + 20 := by
 obtain ⟨r1, a1, s1, e1, q1, q2, q3, q4⟩ := pick_any hc a s (n + 1) h0 (by omega) (by omega) (by omega)
 obtain ⟨p, a2, s2, ⟨K2, e2⟩, q5, q6, q7⟩ := sure_any hc a1 s1 r1 (by omega) (by omega) q1 (by omega)
 obtain ⟨r3, a3, s3, e3, q8, q9, q10, q11⟩ := pick_any hc a2 s2 16 (by omega) (by omega) (by omega) (by omega)
 have w1 : wrap64 (n + 1) = n + 1 := w64 (by omega) (by omega)
 by_cases c0 : r3 = 0
 ·by_cases hp : (p.length : Int) > 0
  ·obtain ⟨r4, a4, s4, e4, q12, q13, q14, q15⟩ := pick_any hc a3 s3 (p.length : Int) (by omega) (by omega) (by omega) (by omega)
   obtain ⟨r5, a5, s5, e5, q16, q17, q18, q19⟩ := pick_any hc a4 s4 ((p.length : Int) + 2) (by omega) (by omega) (by omega) (by omega)
   refine ⟨p.set r4.toNat (r5 - 1), a5, s5, ⟨K2, fun k hk => ?_⟩, by simp; omega, by omega, by omega⟩
   unfold spec_l1Cur_system.f
   rw [w1]
   refine bindE e1 ?_
   dsimp only
   refine bindE (e2 k (by omega)) ?_
   dsimp only
   refine bindE e3 ?_
   dsimp only
   rw [if_pos c0, if_pos hp]
   refine bindE e4 ?_
   dsimp only
   rw [w64 (x := (p.length : Int) + 2) (by omega) (by omega)]
   refine bindE e5 ?_
   dsimp only
   rw [if_pos q12, if_pos q13, w64 (by omega) (by omega)]
  ·refine ⟨p, a3, s3, ⟨K2, fun k hk => ?_⟩, by omega, by omega, by omega⟩
   unfold spec_l1Cur_system.f
   rw [w1]
   refine bindE e1 ?_
   dsimp only
   refine bindE (e2 k (by omega)) ?_
   dsimp only
   refine bindE e3 ?_
   dsimp only
   rw [if_pos c0, if_neg hp]
 ·by_cases c1 : r3 = 1
  ·refine ⟨p ++ [(p.length : Int) + 1], a3, s3, ⟨K2, fun k hk => ?_⟩, by simp; omega, by omega, by omega⟩
   unfold spec_l1Cur_system.f
   rw [w1]
   refine bindE e1 ?_
   dsimp only
   refine bindE (e2 k (by omega)) ?_
   dsimp only
   refine bindE e3 ?_
   dsimp only
   rw [if_neg c0, if_pos c1, if_pos (by omega), w64 (by omega) (by omega)]
  ·by_cases c2 : r3 = 2
   ·obtain ⟨r4, a4, s4, e4, q12, q13, q14, q15⟩ := pick_any hc a3 s3 2 (by omega) (by omega) (by omega) (by omega)
    obtain ⟨l, ⟨K3, e5⟩, q16⟩ := flat_d (6 + r4) (by omega) (by omega)
    refine ⟨l, a4, s4, ⟨K2 + K3, fun k hk => ?_⟩, q16, by omega, by omega⟩
    unfold spec_l1Cur_system.f
    rw [w1]
    refine bindE e1 ?_
    dsimp only
    refine bindE (e2 k (by omega)) ?_
    dsimp only
    refine bindE e3 ?_
    dsimp only
    rw [if_neg c0, if_neg c1, if_pos c2]
    refine bindE e4 ?_
    dsimp only
    rw [w64 (x := 6 + r4) (by omega) (by omega)]
    exact bindE (e5 k (by omega)) rfl
   ·by_cases c3 : r3 = 3
    ·obtain ⟨r4, a4, s4, e4, q12, q13, q14, q15⟩ := pick_any hc a3 s3 7 (by omega) (by omega) (by omega) (by omega)
     obtain ⟨l, ⟨K3, e5⟩, q16⟩ := rainbow_d r4 (by omega) (by omega)
     refine ⟨l, a4, s4, ⟨K2 + K3, fun k hk => ?_⟩, q16, by omega, by omega⟩
     unfold spec_l1Cur_system.f
     rw [w1]
     refine bindE e1 ?_
     dsimp only
     refine bindE (e2 k (by omega)) ?_
     dsimp only
     refine bindE e3 ?_
     dsimp only
     rw [if_neg c0, if_neg c1, if_neg c2, if_pos c3]
     refine bindE e4 ?_
     dsimp only
     exact bindE (e5 k (by omega)) rfl
    ·refine ⟨p, a3, s3, ⟨K2, fun k hk => ?_⟩, by omega, by omega, by omega⟩
     unfold spec_l1Cur_system.f
     rw [w1]
     refine bindE e1 ?_
     dsimp only
     refine bindE (e2 k (by omega)) ?_
     dsimp only
     refine bindE e3 ?_
     dsimp only
     rw [if_neg c0, if_neg c1, if_neg c2, if_neg c3]
theorem among_any {c : List Int} (hc : Bys c) (a s : Int) (l : List Int) (h0 : 0 ≤ a) (h1 : a ≤ 4000000000000000000) (hn : 1 ≤ l.length) (hn2 : l.length ≤ 200) :
  ∃ r a' s', spec_l1Cur_among.f c a s l = some (r, a', s') ∧ r ∈ l ∧ a ≤ a' ∧ a' ≤ a + 1 := by
 obtain ⟨r, a', s', e, q1, q2, q3, q4⟩ := pick_any hc a s (l.length : Int) h0 h1 (by omega) (by omega)
 unfold spec_l1Cur_among.f
 rw [e, Option.bind_some, if_pos q1, if_pos q2]
 exact ⟨_, _, _, rfl, rd_mem l r q1 q2, q3, q4⟩
theorem arches_any {c : List Int} (hc : Bys c) (a s n : Int) (h0 : 0 ≤ a) (h1 : a ≤ 2000000000000000000) (hn0 : 0 ≤ n) (hn : n ≤ 100) :
  ∃ r a' s', spec_l1Cur_arches.f c a s n = some (r, a', s') ∧ (r = -1 ∨ 0 ≤ r) ∧ r ≤ n + 1 + (if n = 0 then 1 else 0) ∧ a ≤ a' ∧ a' ≤ a + 2 := by
 obtain ⟨r2, a2, s2, e2, q5, q6⟩ := one_any hc a s 8 (by omega) (by omega) (by omega) (by omega)
 unfold spec_l1Cur_arches.f
 have w1 : wrap64 (n + 1) = n + 1 := w64 (by omega) (by omega)
 cases r2 with
 | true =>
  obtain ⟨r3, a3, s3, e3, hm, q7, q8⟩ := among_any hc a2 s2 ([(-1), 0, 1, n, n + 1] : List Int) (by omega) (by omega) (by simp) (by simp)
  refine ⟨r3, a3, s3, ?_, ?_, ?_, by omega, by omega⟩
  ·refine bindE e2 ?_
   dsimp only
   rw [if_pos rfl, w1]
   exact bindE e3 rfl
  ·simp only [List.mem_cons, List.not_mem_nil, or_false] at hm
   rcases hm with h | h | h | h | h <;> omega
  ·simp only [List.mem_cons, List.not_mem_nil, or_false] at hm
   rcases hm with h | h | h | h | h <;> split <;> omega
 | false =>
  obtain ⟨r3, a3, s3, e3, q9, q10, q7, q8⟩ := pick_any hc a2 s2 (n + 1) (by omega) (by omega) (by omega) (by omega)
  refine ⟨r3, a3, s3, ?_, by omega, by split <;> omega, by omega, by omega⟩
  refine bindE e2 ?_
  dsimp only
  rw [if_neg (by decide), w1]
  exact bindE e3 rfl
theorem drawIs_any {c : List Int} (hc : Bys c) : ∃ p, (∃ K, ∀ k, K ≤ k → spec_DrawIsSystem.f k c = some (p)) ∧ p.length ≤ 14 := by
 obtain ⟨p, a1, s1, ⟨K1, e1⟩, q1, q2, q3⟩ := system_any hc 0 0 6 (by omega) (by omega) (by omega) (by omega)
 refine ⟨p, ⟨K1, fun k hk => ?_⟩, q1⟩
 unfold spec_DrawIsSystem.f spec_DrawIsSystem_m.f
 exact bindE (bindE (e1 k hk) rfl) rfl
theorem ahText_l (l : List Int) (hl : l.length ≤ 1048576) (d : Nat) : ∀ (t : ByteArray) (i : Int), 0 ≤ i → (l.length : Int) = i + d → t.size + d ≤ 1048576 → ∃ r, (∃ K, ∀ k, K ≤ k → spec_ahText.l0 k t l (l.length : Int) i = some (r)) ∧ r.size = t.size + d := by
 induction d with
 | zero =>
  intro t i h0 hd ht
  refine ⟨t, ev_rs 0 fun m _ => ?_, rfl⟩
  rw [spec_ahText.l0, if_neg (by omega)]
 | succ d ih =>
  intro t i h0 hd ht
  by_cases c : rd l i > i
  ·obtain ⟨r, ⟨K, h⟩, hr⟩ := ih (t ++ (⟨#[40]⟩ : ByteArray)) (i + 1) (by omega) (by omega) (by rw [size_push1]; omega)
   refine ⟨r, ev_rs K fun m hm => ?_, by rw [hr, size_push1]; omega⟩
   rw [spec_ahText.l0, if_pos (by omega), if_pos h0, if_pos (by omega), if_pos c, if_pos (by omega), w64 (by omega) (by omega)]
   exact h m hm
  ·obtain ⟨r, ⟨K, h⟩, hr⟩ := ih (t ++ (⟨#[41]⟩ : ByteArray)) (i + 1) (by omega) (by omega) (by rw [size_push1]; omega)
   refine ⟨r, ev_rs K fun m hm => ?_, by rw [hr, size_push1]; omega⟩
   rw [spec_ahText.l0, if_pos (by omega), if_pos h0, if_pos (by omega), if_neg c, if_pos (by omega), w64 (by omega) (by omega)]
   exact h m hm
theorem ahText_tot (l : List Int) (hl : l.length ≤ 1048576) : ∃ r, (∃ K, ∀ k, K ≤ k → spec_ahText.f k l = some (r)) ∧ r.size = l.length := by
 obtain ⟨r, h, hr⟩ := ahText_l l hl l.length (⟨#[]⟩ : ByteArray) 0 (by omega) (by omega) (by show 0 + l.length ≤ 1048576; omega)
 exact ⟨r, h, by rw [hr]; show 0 + l.length = l.length; omega⟩
theorem ext_size (t : ByteArray) (a b : Nat) : (t.extract a b).size = min b t.size - a := ByteArray.size_extract
theorem wth_size : ((⟨#[40, 41, 91, 32]⟩ : ByteArray).size : Int) = 4 := rfl
theorem spoilt_l {c : List Int} (hc : Bys c) (d : Nat) : ∀ (t : ByteArray) (a s : Int), t.size + d ≤ 100 → 0 ≤ a → a + 3 * d ≤ 2000000000000000000 → d ≤ 10 →
  ∃ u a' s', (∃ K, ∀ k, K ≤ k → spec_l1Cur_spoilt.l0 k t (⟨#[40, 41, 91, 32]⟩ : ByteArray) (d : Int) c a s = some ((u, a', s'))) ∧ u.size ≤ t.size + d ∧ a ≤ a' ∧ a' ≤ a + 3 * d := by
 induction d with
 | zero =>
  intro t a s ht h0 h1 hd
  refine ⟨t, a, s, ⟨2, fun k hk => ?_⟩, by omega, by omega, by omega⟩
  obtain ⟨m, rfl⟩ : ∃ m, k = m + 2 := ⟨k - 2, by omega⟩
  rw [spec_l1Cur_spoilt.l0, if_neg (by omega), spec_l1Cur_spoilt.j1, if_neg (by decide)]
 | succ d ih =>
  intro t a s ht h0 h1 hd
  by_cases hz : (t.size : Int) > 0
  ·obtain ⟨r1, a1, s1, e1, q1, q2, q3, q4⟩ := pick_any hc a s (t.size : Int) h0 (by omega) (by omega) (by omega)
   obtain ⟨r2, a2, s2, e2, q5, q6, q7, q8⟩ := pick_any hc a1 s1 4 (by omega) (by omega) (by omega) (by omega)
   obtain ⟨r3, a3, s3, e3, q9, q10, q11, q12⟩ := pick_any hc a2 s2 3 (by omega) (by omega) (by omega) (by omega)
   have z1 := ext_size t 0 r1.toNat
   have z2 := ext_size t r1.toNat t.size
   have z3 := ext_size t (r1 + 1).toNat t.size
   have z4 : (strOfNums [bt (⟨#[40, 41, 91, 32]⟩ : ByteArray) r2]).size = 1 := by rw [son_size]; rfl
   have w1 : wrap64 (r1 + 1) = r1 + 1 := w64 (by omega) (by omega)
   have w2 : wrap64 (((d + 1 : Nat) : Int) - 1) = (d : Int) := by rw [w64 (by omega) (by omega)]; omega
   have go : ∀ (m : Nat) (R : Option (ByteArray × Int × Int)), (if r3 = 0 then (spec_l1Cur_spoilt.l0 m (((t.extract 0 r1.toNat) ++ (strOfNums [bt (⟨#[40, 41, 91, 32]⟩ : ByteArray) r2])) ++ (t.extract r1.toNat t.size)) (⟨#[40, 41, 91, 32]⟩ : ByteArray) (d : Int) c a3 s3) else if r3 = 1 then (spec_l1Cur_spoilt.l0 m (((t.extract 0 r1.toNat) ++ (strOfNums [bt (⟨#[40, 41, 91, 32]⟩ : ByteArray) r2])) ++ (t.extract (r1 + 1).toNat t.size)) (⟨#[40, 41, 91, 32]⟩ : ByteArray) (d : Int) c a3 s3) else (spec_l1Cur_spoilt.l0 m ((t.extract 0 r1.toNat) ++ (t.extract (r1 + 1).toNat t.size)) (⟨#[40, 41, 91, 32]⟩ : ByteArray) (d : Int) c a3 s3)) = R →
     spec_l1Cur_spoilt.l0 (m + 2) t (⟨#[40, 41, 91, 32]⟩ : ByteArray) ((d + 1 : Nat) : Int) c a s = R := by
    intro m R h
    rw [spec_l1Cur_spoilt.l0, if_pos (by omega), decide_eq_true hz, spec_l1Cur_spoilt.j1, if_pos rfl]
    refine bindE e1 ?_
    dsimp only
    rw [wth_size]
    refine bindE e2 ?_
    dsimp only
    rw [if_pos q5, if_pos q6, Option.bind_some]
    refine bindE e3 ?_
    dsimp only
    rw [w1, w2]
    by_cases c0 : r3 = 0
    ·rw [if_pos c0] at h ⊢
     rw [if_pos q1, if_pos (by omega), if_pos (by omega), if_pos (by rw [ByteArray.size_append]; omega)]
     exact h
    ·rw [if_neg c0] at h ⊢
     by_cases c1 : r3 = 1
     ·rw [if_pos c1] at h ⊢
      rw [if_pos q1, if_pos (by omega), if_pos (by omega), if_pos (by omega), if_pos (by omega), if_pos (by rw [ByteArray.size_append]; omega)]
      exact h
     ·rw [if_neg c1] at h ⊢
      rw [if_pos q1, if_pos (by omega), if_pos (by omega), if_pos (by omega), if_pos (by omega)]
      exact h
   by_cases c0 : r3 = 0
   ·obtain ⟨u, a', s', ⟨K, h⟩, v1, v2, v3⟩ := ih (((t.extract 0 r1.toNat) ++ (strOfNums [bt (⟨#[40, 41, 91, 32]⟩ : ByteArray) r2])) ++ (t.extract r1.toNat t.size)) a3 s3 (by rw [ByteArray.size_append, ByteArray.size_append]; omega) (by omega) (by omega) (by omega)
    rw [ByteArray.size_append, ByteArray.size_append] at v1
    refine ⟨u, a', s', ⟨K + 2, fun k hk => ?_⟩, by omega, by omega, by omega⟩
    obtain ⟨m, rfl⟩ : ∃ m, k = m + 2 := ⟨k - 2, by omega⟩
    refine go m _ ?_
    rw [if_pos c0]
    exact h m (by omega)
   ·by_cases c1 : r3 = 1
    ·obtain ⟨u, a', s', ⟨K, h⟩, v1, v2, v3⟩ := ih (((t.extract 0 r1.toNat) ++ (strOfNums [bt (⟨#[40, 41, 91, 32]⟩ : ByteArray) r2])) ++ (t.extract (r1 + 1).toNat t.size)) a3 s3 (by rw [ByteArray.size_append, ByteArray.size_append]; omega) (by omega) (by omega) (by omega)
     rw [ByteArray.size_append, ByteArray.size_append] at v1
     refine ⟨u, a', s', ⟨K + 2, fun k hk => ?_⟩, by omega, by omega, by omega⟩
     obtain ⟨m, rfl⟩ : ∃ m, k = m + 2 := ⟨k - 2, by omega⟩
     refine go m _ ?_
     rw [if_neg c0, if_pos c1]
     exact h m (by omega)
    ·obtain ⟨u, a', s', ⟨K, h⟩, v1, v2, v3⟩ := ih ((t.extract 0 r1.toNat) ++ (t.extract (r1 + 1).toNat t.size)) a3 s3 (by rw [ByteArray.size_append]; omega) (by omega) (by omega) (by omega)
     rw [ByteArray.size_append] at v1
     refine ⟨u, a', s', ⟨K + 2, fun k hk => ?_⟩, by omega, by omega, by omega⟩
     obtain ⟨m, rfl⟩ : ∃ m, k = m + 2 := ⟨k - 2, by omega⟩
     refine go m _ ?_
     rw [if_neg c0, if_neg c1]
     exact h m (by omega)
  ·refine ⟨t, a, s, ⟨2, fun k hk => ?_⟩, by omega, by omega, by omega⟩
   obtain ⟨m, rfl⟩ : ∃ m, k = m + 2 := ⟨k - 2, by omega⟩
   rw [spec_l1Cur_spoilt.l0, if_pos (by omega), decide_eq_false hz, spec_l1Cur_spoilt.j1, if_neg (by decide)]
theorem drawParse_any {c : List Int} (hc : Bys c) : ∃ t, (∃ K, ∀ k, K ≤ k → spec_DrawParseSystem.f k c = some (t)) ∧ t.size ≤ 20 := by
 obtain ⟨r1, a1, s1, e1, q1, q2, q3, q4⟩ := pick_any hc 0 0 7 (by omega) (by omega) (by omega) (by omega)
 obtain ⟨p, a2, s2, ⟨K2, e2⟩, q5, q6, q7⟩ := sure_any hc a1 s1 r1 (by omega) (by omega) q1 (by omega)
 obtain ⟨t, ⟨K3, e3⟩, q8⟩ := ahText_tot p (by omega)
 obtain ⟨b, a4, s4, e4, q9, q10⟩ := one_any hc a2 s2 3 (by omega) (by omega) (by omega) (by omega)
 cases b with
 | true =>
  obtain ⟨r5, a5, s5, e5, q11, q12, q13, q14⟩ := pick_any hc a4 s4 2 (by omega) (by omega) (by omega) (by omega)
  obtain ⟨u, a6, s6, ⟨K6, e6⟩, q15, q16, q17⟩ := spoilt_l hc (1 + r5).toNat t a5 s5 (by omega) (by omega) (by omega) (by omega)
  rw [show (((1 + r5).toNat : Nat) : Int) = 1 + r5 by omega] at e6
  refine ⟨u, ⟨K2 + K3 + K6, fun k hk => ?_⟩, by omega⟩
  unfold spec_DrawParseSystem.f spec_DrawParseSystem_m.f
  refine bindE (a := (u, a6, s6)) (bindE e1 ?_) rfl
  dsimp only
  refine bindE (e2 k (by omega)) ?_
  dsimp only
  refine bindE (e3 k (by omega)) ?_
  refine bindE e4 ?_
  dsimp only
  rw [if_pos rfl]
  refine bindE (a := (u, a6, s6)) ?_ rfl
  unfold spec_l1Cur_spoilt.f
  refine bindE e5 ?_
  dsimp only
  rw [w64 (by omega) (by omega)]
  exact e6 k (by omega)
 | false =>
  refine ⟨t, ⟨K2 + K3, fun k hk => ?_⟩, by omega⟩
  unfold spec_DrawParseSystem.f spec_DrawParseSystem_m.f
  refine bindE (a := (t, a4, s4)) (bindE e1 ?_) rfl
  dsimp only
  refine bindE (e2 k (by omega)) ?_
  dsimp only
  refine bindE (e3 k (by omega)) ?_
  refine bindE e4 ?_
  dsimp only
  rw [if_neg (by decide)]
theorem drawNext_any {c : List Int} (hc : Bys c) : ∃ p, (∃ K, ∀ k, K ≤ k → spec_DrawNextSystem.f k c = some (p)) ∧ p.length ≤ 14 := by
 obtain ⟨p, ⟨K1, e1⟩, q1⟩ := drawIs_any hc
 exact ⟨p, ⟨K1, fun k hk => by unfold spec_DrawNextSystem.f; exact bindE (e1 k hk) rfl⟩, q1⟩
theorem drawAll_any {c : List Int} (hc : Bys c) : ∃ n, spec_DrawAllSystems.f c = some n := by
 obtain ⟨r, a', s', e, _⟩ := arches_any hc 0 0 6 (by omega) (by omega) (by omega) (by omega)
 refine ⟨r, ?_⟩
 unfold spec_DrawAllSystems.f spec_DrawAllSystems_m.f
 exact bindE (a := (r, a', s')) (bindE e rfl) rfl
theorem drawWith_j {c : List Int} (hc : Bys c) (n a s : Int) (b : Bool) (hb : b = false → 0 ≤ n ∧ n ≤ 6) (h0 : 0 ≤ a) (h1 : a ≤ 1000) : ∃ r a' s', (∃ K, ∀ k, K ≤ k → spec_DrawSystemWith_m.j0 k n b c a s = some ((n, r, a', s'))) ∧ (0 ≤ r ∨ r = -1) ∧ r ≤ 4611686018427387904 := by
 cases b with
 | true =>
  obtain ⟨r3, a3, s3, e3, hm, q7, q8⟩ := among_any hc a s ([(-1), 0, 1, 2, 5, 14, 42, 131, 132, 4611686018427387904] : List Int) (by omega) (by omega) (by simp) (by simp)
  refine ⟨r3, a3, s3, ev_rs 0 fun m _ => ?_, ?_, ?_⟩
  ·rw [spec_DrawSystemWith_m.j0, if_pos rfl]
   exact bindE e3 rfl
  ·simp only [List.mem_cons, List.not_mem_nil, or_false] at hm
   omega
  ·simp only [List.mem_cons, List.not_mem_nil, or_false] at hm
   omega
 | false =>
  obtain ⟨n0, n6⟩ := hb rfl
  obtain ⟨K1, e1⟩ := ahCount_any n n0 n6
  obtain ⟨g1, g2⟩ := sysList_short (n := n.toNat) (by omega)
  obtain ⟨r3, a3, s3, e3, q5, q6, q7, q8⟩ := pick_any hc a s ((Pl.sysList n.toNat).length : Int) (by omega) (by omega) (by omega) (by omega)
  refine ⟨r3, a3, s3, ev_rs K1 fun m hm => ?_, by omega, by omega⟩
  rw [spec_DrawSystemWith_m.j0, if_neg (by decide)]
  refine bindE (e1 m hm) ?_
  exact bindE e3 rfl
theorem drawWith_any {c : List Int} (hc : Bys c) : ∃ n r, (∃ K, ∀ k, K ≤ k → spec_DrawSystemWith.f k c = some ((n, r))) ∧ (0 ≤ r ∨ r = -1) ∧ r ≤ 4611686018427387904 := by
 obtain ⟨n, a1, s1, e1, _, _, q3, q4⟩ := arches_any hc 0 0 6 (by omega) (by omega) (by omega) (by omega)
 by_cases h : 0 ≤ n ∧ n ≤ 6
 ·obtain ⟨b, a2, s2, e2, q5, q6⟩ := one_any hc a1 s1 4 (by omega) (by omega) (by omega) (by omega)
  obtain ⟨r, a3, s3, ⟨K, e3⟩, h3⟩ := drawWith_j hc n a2 s2 b (fun _ => h) (by omega) (by omega)
  refine ⟨n, r, ⟨K, fun k hk => ?_⟩, h3⟩
  unfold spec_DrawSystemWith.f spec_DrawSystemWith_m.f
  refine bindE (a := (n, r, a3, s3)) (bindE e1 ?_) rfl
  have e : spec_ahArches.f n = some true := by simp only [spec_ahArches.f, l1In_any, decide_eq_true h, Option.bind_some]
  refine bindE e ?_
  dsimp only
  rw [if_pos rfl]
  refine bindE e2 ?_
  exact e3 k hk
 ·obtain ⟨r, a3, s3, ⟨K, e3⟩, h3⟩ := drawWith_j hc n a1 s1 true (fun h => by cases h) (by omega) (by omega)
  refine ⟨n, r, ⟨K, fun k hk => ?_⟩, h3⟩
  unfold spec_DrawSystemWith.f spec_DrawSystemWith_m.f
  refine bindE (a := (n, r, a3, s3)) (bindE e1 ?_) rfl
  have e : spec_ahArches.f n = some false := by simp only [spec_ahArches.f, l1In_any, decide_eq_false h, Option.bind_some]
  refine bindE e ?_
  dsimp only
  rw [if_neg (by decide)]
  exact e3 k hk
noncomputable def countR (n : Int) : Int × Bool := if 0 ≤ n ∧ n ≤ 6 then (((Pl.sysList n.toNat).length : Int), true) else (0, false)
theorem implCount_any (n : Int) : (∃ K, ∀ k, K ≤ k → impl_CountSystems.f k n = some (countR n)) := by
 unfold countR
 by_cases h : 0 ≤ n ∧ n ≤ 6
 ·obtain ⟨K, hk⟩ := systems_any n h.1 h.2
  refine ⟨K, fun k hkk => ?_⟩
  rw [if_pos h]
  have e : impl_isArches.f n = some true := by simp only [impl_isArches.f, in_any, decide_eq_true h, Option.bind_some]
  unfold impl_CountSystems.f
  refine bindE e ?_
  rw [if_pos rfl]
  exact bindE (hk k hkk) rfl
 ·refine ⟨0, fun k _ => ?_⟩
  rw [if_neg h]
  simp only [impl_CountSystems.f, impl_isArches.f, in_any, decide_eq_false h, Option.bind_some, Bool.false_eq_true, if_false]
theorem specCount_any (n : Int) : (∃ K, ∀ k, K ≤ k → spec_CountSystems.f k n = some (countR n)) := by
 unfold countR
 by_cases h : 0 ≤ n ∧ n ≤ 6
 ·obtain ⟨K, hk⟩ := ahCount_any n h.1 h.2
  refine ⟨K, fun k hkk => ?_⟩
  rw [if_pos h]
  have e : spec_ahArches.f n = some true := by simp only [spec_ahArches.f, l1In_any, decide_eq_true h, Option.bind_some]
  unfold spec_CountSystems.f
  refine bindE e ?_
  rw [if_pos rfl]
  exact bindE (hk k hkk) rfl
 ·refine ⟨0, fun k _ => ?_⟩
  rw [if_neg h]
  simp only [spec_CountSystems.f, spec_ahArches.f, l1In_any, decide_eq_false h, Option.bind_some, Bool.false_eq_true, if_false]
noncomputable def allR (n : Int) : List (List Int) × Bool := if 0 ≤ n ∧ n ≤ 6 then (Pl.sysList n.toNat, true) else ([], false)
theorem implAll_any (n : Int) : (∃ K, ∀ k, K ≤ k → impl_AllSystems.f k n = some (allR n)) := by
 unfold allR
 by_cases h : 0 ≤ n ∧ n ≤ 6
 ·obtain ⟨K, hk⟩ := systems_any n h.1 h.2
  refine ⟨K, fun k hkk => ?_⟩
  rw [if_pos h]
  have e : impl_isArches.f n = some true := by simp only [impl_isArches.f, in_any, decide_eq_true h, Option.bind_some]
  unfold impl_AllSystems.f
  refine bindE e ?_
  rw [if_pos rfl]
  exact bindE (hk k hkk) rfl
 ·refine ⟨0, fun k _ => ?_⟩
  rw [if_neg h]
  simp only [impl_AllSystems.f, impl_isArches.f, in_any, decide_eq_false h, Option.bind_some, Bool.false_eq_true, if_false]
theorem specAll_any (n : Int) : (∃ K, ∀ k, K ≤ k → spec_AllSystems.f k n = some (allR n)) := by
 unfold allR
 by_cases h : 0 ≤ n ∧ n ≤ 6
 ·obtain ⟨K, hk⟩ := ahAll_any n h.1 h.2
  refine ⟨K, fun k hkk => ?_⟩
  rw [if_pos h]
  have e : spec_ahArches.f n = some true := by simp only [spec_ahArches.f, l1In_any, decide_eq_true h, Option.bind_some]
  unfold spec_AllSystems.f
  refine bindE e ?_
  rw [if_pos rfl]
  exact bindE (hk k hkk) rfl
 ·refine ⟨0, fun k _ => ?_⟩
  rw [if_neg h]
  simp only [spec_AllSystems.f, spec_ahArches.f, l1In_any, decide_eq_false h, Option.bind_some, Bool.false_eq_true, if_false]
def rowsG (L : List (List Int)) (n : Nat) : Bool := (laws_sSameRows.f 400 L L == some true) && decide (L.length ≤ 132) && ((List.range L.length).all fun i => (impl_IsSystem.f 200 (rd_L2 L (i : Nat)) == some true) && decide ((rd_L2 L (i : Nat)).length = 2 * n) &&
 (decide (i = 0) || (laws_sLess.f 60 (rd_L2 L ((i : Int) - 1)) (rd_L2 L (i : Nat)) == some true)) && (rkI n (rd_L2 L (i : Nat)) == (i : Nat)))
theorem rowsG_table : ((List.range 7).all fun n => rowsG (Pl.sysList n) n) = true := by decide +kernel
theorem rowsG_nil : laws_sSameRows.f 400 [] [] = some true := by decide +kernel
theorem withR_pos {n r : Int} (h : 0 ≤ n ∧ n ≤ 6) (hr : 0 ≤ r ∧ r < ((Pl.sysList n.toNat).length : Int)) : withR n r = (rd_L2 (Pl.sysList n.toNat) r, true) := by
 unfold withR; rw [if_pos h, if_pos hr]
theorem withR_neg {n r : Int} (h : ¬ ((0 ≤ n ∧ n ≤ 6) ∧ 0 ≤ r ∧ r < ((Pl.sysList n.toNat).length : Int))) : withR n r = ([], false) := by
 unfold withR
 by_cases h1 : 0 ≤ n ∧ n ≤ 6
 ·rw [if_pos h1, if_neg (fun h2 => h ⟨h1, h2⟩)]
 ·rw [if_neg h1]
theorem j6_any (n r : Int) (hr : r ≤ 4611686018427387904) : (∃ K, ∀ k, K ≤ k → j6 k n r (withR n r).1 (withR n r).2 false = some (true)) := by
 by_cases h : (0 ≤ n ∧ n ≤ 6) ∧ 0 ≤ r ∧ r < ((Pl.sysList n.toNat).length : Int)
 ·obtain ⟨h6, h0, h1⟩ := h
  rw [withR_pos h6 ⟨h0, h1⟩]
  have t := List.all_eq_true.1 rowsG_table n.toNat (List.mem_range.2 (by omega))
  unfold rowsG at t
  rw [Bool.and_eq_true] at t
  have t := List.all_eq_true.1 t.2 r.toNat (List.mem_range.2 (by omega))
  rw [show ((r.toNat : Nat) : Int) = r by omega] at t
  simp only [Bool.and_eq_true, beq_iff_eq, decide_eq_true_eq] at t
  obtain ⟨⟨⟨t1, t2⟩, _⟩, t4⟩ := t
  generalize hp : rd_L2 (Pl.sysList n.toNat) r = p at t1 t2 t4 ⊢
  have hB : sysB p = true := (ev_eq (ev_at (fun k => impl_IsSystem.mono p k) t1) (IsSystem_any p (by omega))).symm
  have e2 : p.length / 2 = n.toNat := by omega
  obtain ⟨K1, g1⟩ := implRank_any p (by omega)
  rw [show rankR p = (r, true) by unfold rankR; rw [if_pos hB, e2, t4]] at g1
  obtain ⟨K2, g2⟩ := implNext_any p (by omega)
  rw [nextR_pos hB, e2, t4, show ((n.toNat : Nat) : Int) = n by omega] at g2
  obtain ⟨K3, g3⟩ := implWith_any n (r + 1)
  have tx := of_table txOk_table hB
  unfold txOk at tx
  simp only [Bool.and_eq_true, decide_eq_true_eq] at tx
  obtain ⟨⟨⟨x1, x2⟩, x3⟩, _⟩ := tx
  have hw := withR_length n (r + 1)
  obtain ⟨K4, g4⟩ := sSame_any (withR n (r + 1)).1 (by omega)
  obtain ⟨K5, g5⟩ := sSame_any p (by omega)
  refine ⟨K1 + K2 + K3 + K4 + K5 + 201, fun k hk => ?_⟩
  obtain ⟨m, rfl⟩ : ∃ m, k = m + 1 := ⟨k - 1, by omega⟩
  have u1 := at_rounds (g := fun k => impl_SystemText.f k p) (fun k => impl_SystemText.mono p k) (show 200 ≤ m by omega) x1
  have u2 := at_rounds (g := fun k => impl_ParseSystem.f k (txI p)) (fun k => impl_ParseSystem.mono _ k) (show 100 ≤ m by omega) x3
  rw [j6, if_neg (by decide), if_pos rfl, w64 (x := r + 1) (by omega) (by omega)]
  refine bindE (g1 m (by omega)) ?_
  try dsimp only
  refine bindE (g2 m (by omega)) ?_
  try dsimp only
  refine bindE (g3 m (by omega)) ?_
  try dsimp only
  refine bindE u1 ?_
  try dsimp only
  refine bindE u2 ?_
  try dsimp only
  rw [if_pos rfl, if_pos rfl, if_pos (by simp)]
  refine bindE (g4 m (by omega)) ?_
  try dsimp only
  rw [if_pos rfl, if_pos rfl, if_pos rfl]
  exact bindE (g5 m (by omega)) rfl
 ·rw [withR_neg h]
  refine ev_rs 0 fun m _ => ?_
  rw [j6, if_neg (by decide), if_neg (by decide)]
theorem j5_any {c : List Int} (hc : Bys c) (n r : Int) (hr : r ≤ 4611686018427387904) : (∃ K, ∀ k, K ≤ k → j5 k c n r (withR n r).1 (withR n r).2 = some (true)) := by
 obtain ⟨K6, g6⟩ := j6_any n r hr
 obtain ⟨q, ⟨K1, h1⟩, hq⟩ := drawNext_any hc
 obtain ⟨K2, h2⟩ := implNext_any q (by omega)
 obtain ⟨K3, h3⟩ := specNext_any q (by omega)
 have hl := nextR_length q
 obtain ⟨K4, h4⟩ := sSame_any (nextR q).1 (by omega)
 refine ev_rs (K1 + K2 + K3 + K4 + K6) fun m hm => ?_
 rw [j5]
 refine bindE (h1 m (by omega)) ?_
 try dsimp only
 refine bindE (h2 m (by omega)) ?_
 try dsimp only
 refine bindE (h3 m (by omega)) ?_
 try dsimp only
 rw [if_neg (by simp)]
 refine bindE (h4 m (by omega)) ?_
 exact g6 m (by omega)
theorem j3_any {c0 c1 : List Int} (hc0 : Bys c0) (hc1 : Bys c1) (n r : Int) (hr : r ≤ 4611686018427387904) : (∃ K, ∀ k, K ≤ k → j3 k c0 c1 n r (withR n r).1 (withR n r).2 = some (true)) := by
 obtain ⟨K5, g5⟩ := j5_any hc0 n r hr
 obtain ⟨s, ⟨K1, h1⟩, hs⟩ := drawParse_any hc1
 obtain ⟨K2, h2⟩ := ParseSystem_any s (by omega)
 obtain ⟨K3, h3⟩ := specParse_any s (by omega)
 have hl := parsed_length s
 obtain ⟨K4, h4⟩ := sSame_any (parsed s).1 (by omega)
 refine ⟨K1 + K2 + K3 + K4 + K5 + 202, fun k hk => ?_⟩
 obtain ⟨m, rfl⟩ : ∃ m, k = m + 2 := ⟨k - 2, by omega⟩
 rw [j3]
 refine bindE (h1 _ (by omega)) ?_
 try dsimp only
 refine bindE (h2 _ (by omega)) ?_
 try dsimp only
 refine bindE (h3 _ (by omega)) ?_
 try dsimp only
 rw [if_neg (by simp)]
 refine bindE (h4 _ (by omega)) ?_
 rw [j4, if_neg (by decide)]
 cases hb : (parsed s).2 with
 | false => rw [if_neg (by decide)]; exact g5 _ (by omega)
 | true =>
  have tx := of_table txOk_table (parsed_sys s hb).1
  unfold txOk at tx
  simp only [Bool.and_eq_true, decide_eq_true_eq] at tx
  have u1 := at_rounds (g := fun k => impl_SystemText.f k (parsed s).1) (fun k => impl_SystemText.mono _ k) (show 200 ≤ m by omega) tx.1.1.1
  rw [if_pos rfl]
  refine bindE u1 ?_
  try dsimp only
  rw [if_pos rfl, if_pos (by rw [text_of_parsed s hb])]
  exact g5 _ (by omega)
theorem l0_any (c0 c1 p : List Int) (n r mm : Int) (f told : Bool) (L : List (List Int)) (hL : L.length ≤ 132) (hm : -2 ≤ mm ∧ mm ≤ 10)
  (hrow : ∀ i : Nat, i < L.length → impl_IsSystem.f 200 (rd_L2 L (i : Nat)) = some true ∧ ((rd_L2 L (i : Nat)).length : Int) = 2 * mm ∧ (i = 0 ∨ laws_sLess.f 60 (rd_L2 L ((i : Int) - 1)) (rd_L2 L (i : Nat)) = some true))
  (hcount : told = true → (∃ K, ∀ k, K ≤ k → impl_CountSystems.f k mm = some (((L.length : Int), true)))) (h3 : (∃ K, ∀ k, K ≤ k → j3 k c0 c1 n r p f = some (true))) (d : Nat) :
  ∀ i : Nat, L.length - i ≤ d → (∃ K, ∀ k, K ≤ k → laws_FnSystemsListed.l0 k c0 c1 n r p f mm L told L (L.length : Int) (i : Int) = some (true)) := by
 obtain ⟨K3, h3⟩ := h3
 have fin : ∀ i : Nat, ¬ i < L.length → (∃ K, ∀ k, K ≤ k → laws_FnSystemsListed.l0 k c0 c1 n r p f mm L told L (L.length : Int) (i : Int) = some (true)) := by
  intro i hi
  cases ht : told with
  | false =>
   refine ev_rs K3 fun m hm => ?_
   rw [laws_FnSystemsListed.l0, if_neg (by omega), if_neg (by decide)]
   exact h3 m hm
  | true =>
   obtain ⟨K, hc⟩ := hcount ht
   refine ev_rs (K + K3) fun m hm => ?_
   rw [laws_FnSystemsListed.l0, if_neg (by omega), if_pos rfl]
   refine bindE (hc m (by omega)) ?_
   try dsimp only
   rw [if_pos rfl, if_pos rfl]
   exact h3 m (by omega)
 induction d with
 | zero => intro i hd; exact fin i (by omega)
 | succ d ih =>
  intro i hd
  by_cases hi : i < L.length
  ·obtain ⟨K, ih⟩ := ih (i + 1) (by omega)
   obtain ⟨r1, r2, r3⟩ := hrow i hi
   refine ev_rs (K + 200) fun m hmm => ?_
   have u1 := at_rounds (g := fun k => impl_IsSystem.f k (rd_L2 L (i : Nat))) (fun k => impl_IsSystem.mono _ k) (show 200 ≤ m by omega) r1
   have ih := ih m (by omega)
   rw [show (((i + 1 : Nat) : Int)) = (i : Int) + 1 by omega] at ih
   rw [laws_FnSystemsListed.l0, if_pos (by omega), if_pos (by omega), if_pos (by omega)]
   refine bindE u1 ?_
   rw [if_pos rfl, w64 (x := 2 * mm) (by omega) (by omega), if_pos r2]
   by_cases h0 : (i : Int) > 0
   ·rw [if_pos h0, w64 (x := (i : Int) - 1) (by omega) (by omega), if_pos (by omega), if_pos (by omega)]
    rcases r3 with r3 | r3
    ·omega
    ·have u2 := at_rounds (g := fun k => laws_sLess.f k (rd_L2 L ((i : Int) - 1)) (rd_L2 L (i : Nat))) (fun k => laws_sLess.mono _ _ k) (show 60 ≤ m by omega) r3
     refine bindE u2 ?_
     rw [if_pos rfl, w64 (by omega) (by omega)]
     exact ih
   ·rw [if_neg h0, w64 (by omega) (by omega)]
    exact ih
  ·exact fin i hi
theorem j0_any {c0 c1 : List Int} (hc0 : Bys c0) (hc1 : Bys c1) (n r : Int) (hr : r ≤ 4611686018427387904) : (∃ K, ∀ k, K ≤ k → j0 k c0 c1 n r (withR n r).1 (withR n r).2 false = some (true)) := by
 obtain ⟨mm, h1⟩ := drawAll_any hc1
 obtain ⟨K2, h2⟩ := implAll_any mm
 obtain ⟨K3, h3⟩ := specAll_any mm
 have h3' := j3_any hc0 hc1 n r hr
 by_cases h : 0 ≤ mm ∧ mm ≤ 6
 ·have e : allR mm = (Pl.sysList mm.toNat, true) := if_pos h
  rw [e] at h2 h3
  have t := List.all_eq_true.1 rowsG_table mm.toNat (List.mem_range.2 (by omega))
  unfold rowsG at t
  simp only [Bool.and_eq_true, beq_iff_eq, decide_eq_true_eq] at t
  obtain ⟨⟨t1, t2⟩, t3⟩ := t
  obtain ⟨K4, h4⟩ := l0_any c0 c1 (withR n r).1 n r mm (withR n r).2 true (Pl.sysList mm.toNat) t2 (by omega) (fun i hi => by
   have q := List.all_eq_true.1 t3 i (List.mem_range.2 hi)
   simp only [Bool.and_eq_true, Bool.or_eq_true, beq_iff_eq, decide_eq_true_eq] at q
   exact ⟨q.1.1.1, by omega, q.1.2⟩) (fun _ => by
   have q := implCount_any mm
   rw [show countR mm = (((Pl.sysList mm.toNat).length : Int), true) from if_pos h] at q
   exact q) h3' (Pl.sysList mm.toNat).length 0 (by omega)
  refine ⟨K2 + K3 + K4 + 402, fun k hk => ?_⟩
  obtain ⟨m, rfl⟩ : ∃ m, k = m + 2 := ⟨k - 2, by omega⟩
  have u1 := at_rounds (g := fun k => laws_sSameRows.f k (Pl.sysList mm.toNat) (Pl.sysList mm.toNat)) (fun k => laws_sSameRows.mono _ _ k) (show 400 ≤ m + 1 by omega) t1
  rw [j0, if_neg (by decide)]
  refine bindE h1 ?_
  refine bindE (h2 _ (by omega)) ?_
  try dsimp only
  refine bindE (h3 _ (by omega)) ?_
  try dsimp only
  rw [if_neg (by decide)]
  refine bindE u1 ?_
  rw [j1, if_neg (by decide)]
  exact h4 m (by omega)
 ·have e : allR mm = ([], false) := if_neg h
  rw [e] at h2 h3
  obtain ⟨K4, h4⟩ := h3'
  refine ⟨K2 + K3 + K4 + 403, fun k hk => ?_⟩
  obtain ⟨m, rfl⟩ : ∃ m, k = m + 3 := ⟨k - 3, by omega⟩
  have u1 := at_rounds (g := fun k => laws_sSameRows.f k [] []) (fun k => laws_sSameRows.mono _ _ k) (show 400 ≤ m + 2 by omega) rowsG_nil
  rw [j0, if_neg (by decide)]
  refine bindE h1 ?_
  refine bindE (h2 _ (by omega)) ?_
  try dsimp only
  refine bindE (h3 _ (by omega)) ?_
  try dsimp only
  rw [if_neg (by decide)]
  refine bindE u1 ?_
  rw [j1, if_neg (by decide), laws_FnSystemsListed.l0, if_neg (by decide), if_neg (by decide)]
  exact h4 m (by omega)
theorem FnSystemsListed : laws_FnSystemsListed.Pure := by
 intro l0 l1 _ _ hw0 _ _ hw1
 by_cases hb : l0.length ≤ 1048576 ∧ (l1.length : Int) ≤ 1048576 - l0.length
 ·have hc0 := bys_of hb.1 hw0
  have hc1 := bys_of (c := l1) (by omega) hw1
  have hbig := big_any l0 l1 hb.1 hb.2
  obtain ⟨n, r, ⟨K1, h1⟩, hr0, hr⟩ := drawWith_any hc0
  obtain ⟨K2, h2⟩ := implWith_any n r
  obtain ⟨K3, h3⟩ := specWith_any n r
  obtain ⟨K4, h4⟩ := implCount_any n
  obtain ⟨K5, h5⟩ := specCount_any n
  have hw := withR_length n r
  obtain ⟨K6, h6⟩ := sSame_any (withR n r).1 (by omega)
  obtain ⟨K7, h7⟩ := j0_any hc0 hc1 n r hr
  refine ⟨K1 + K2 + K3 + K4 + K5 + K6 + K7 + 2, ?_⟩
  rw [laws_FnSystemsListed.f, hbig, Option.bind_some, if_neg (by decide)]
  refine bindE (h1 _ (by omega)) ?_
  try dsimp only
  refine bindE (h2 _ (by omega)) ?_
  try dsimp only
  refine bindE (h3 _ (by omega)) ?_
  try dsimp only
  refine bindE (h4 _ (by omega)) ?_
  try dsimp only
  refine bindE (h5 _ (by omega)) ?_
  try dsimp only
  rw [if_neg (by simp)]
  refine bindE (h6 _ (by omega)) ?_
  try dsimp only
  rw [if_pos rfl, if_neg (by simp), if_pos rfl]
  have g7 := h7 (K1 + K2 + K3 + K4 + K5 + K6 + K7 + 2) (by omega)
  by_cases h : 0 ≤ n ∧ n ≤ 6
  ·rw [show countR n = (((Pl.sysList n.toNat).length : Int), true) from if_pos h, if_pos rfl]
   by_cases hp : r ≥ 0
   ·rw [if_pos hp]
    have e : ((withR n r).2 != decide (r < ((Pl.sysList n.toNat).length : Int))) = false := by
     by_cases hq : r < ((Pl.sysList n.toNat).length : Int)
     ·rw [withR_pos h ⟨hp, hq⟩, decide_eq_true hq]; rfl
     ·rw [withR_neg (fun x => hq x.2.2), decide_eq_false hq]; rfl
    rw [e]; exact g7
   ·rw [if_neg hp]
    have e : ((withR n r).2 != false) = false := by rw [withR_neg (fun x => hp x.2.1)]; rfl
    rw [e]; exact g7
  ·rw [show countR n = (0, false) from if_neg h, if_neg (by decide)]
   have e : ((withR n r).2 != false) = false := by rw [withR_neg (fun x => h x.1)]; rfl
   rw [e]; exact g7
 ·exact ⟨0, by simp only [laws_FnSystemsListed.f, big_yes l0 l1 hb, Option.bind_some, if_true]⟩
end Go.Proofs.Ytpbadjdeghmenaa.Pure
