/- The law FnArchesPut answers true at every pair of byte rows: arches that are dropped are put back, and outer, small and deep ones are told alike. Conditions: none beyond the form's own. -/
import Derived.Test.YtonobgbpgeielaaQFnArchesPutx14
import Derived.Test.YtonobgbpgeielaaMyPl
namespace Go.Proofs.Ytonobgbpgeielaa.Pure
open Go.RowKit Go.Proofs.Ytonobgbpgeielaa.QFnArchesPut Go.Proofs.YtonobgbpgeielaaW.PrintWords Go.Proofs.YtonobgbpgeielaaW.PrintLast
set_option linter.unusedVariables false
set_option linter.unusedSimpArgs false

/-! ### Words of my own -/
theorem w64 {x : Int} (h1 : -9223372036854775808 ≤ x) (h2 : x < 9223372036854775808) : wrap64 x = x := by unfold wrap64; omega
theorem ev_rs {α : Type} {g : Nat → Option α} {r : α} (K : Nat) (h : ∀ m, K ≤ m → g (m + 1) = some r) : ∃ K, ∀ k, K ≤ k → g k = some r := by
  refine ⟨K + 1, fun k hk => ?_⟩
  obtain ⟨m, rfl⟩ : ∃ m, k = m + 1 := ⟨k - 1, by omega⟩
  exact h m (by omega)
noncomputable def tf (P : Prop) : Bool := @decide P (Classical.propDecidable P)
theorem tf_t {P : Prop} (h : P) : tf P = true := by unfold tf; simp [h]
theorem tf_f {P : Prop} (h : ¬ P) : tf P = false := by unfold tf; simp [h]
theorem tf_iff {P : Prop} : tf P = true ↔ P := by unfold tf; simp
theorem tf_c {P Q : Prop} (h : P ↔ Q) : tf P = tf Q := by rw [propext h]
theorem tf_d {P : Prop} [Decidable P] : tf P = decide P := by
  by_cases h : P
  · rw [tf_t h]; simp [h]
  · rw [tf_f h]; simp [h]
theorem rd_def (l : List Int) (i : Int) : rd l i = l.getD i.toNat 0 := rfl
theorem rd_set (l : List Int) (i j v : Int) (hi : 0 ≤ i) (hl : i < l.length) (hj : 0 ≤ j) : rd (l.set i.toNat v) j = if j = i then v else rd l j := by
  unfold rd
  simp only [List.getD_eq_getElem?_getD, List.getElem?_set]
  by_cases e : j = i
  · subst e
    rw [if_pos rfl, if_pos rfl, if_pos (by omega)]; rfl
  · rw [if_neg (by omega), if_neg e]
theorem rd_get (l : List Int) (i : Nat) (h : i < l.length) : rd l i = l[i] := by
  unfold rd
  rw [Int.toNat_natCast, List.getD_eq_getElem?_getD, List.getElem?_eq_getElem h]; rfl
theorem rd_ext {a b : List Int} (hl : a.length = b.length) (h : ∀ j : Int, 0 ≤ j → j < a.length → rd a j = rd b j) : a = b := by
  refine List.ext_getElem hl fun i h1 h2 => ?_
  have := h i (by omega) (by omega)
  rwa [rd_get a i h1, rd_get b i h2] at this
theorem rd_mem (l : List Int) (i : Int) (h0 : 0 ≤ i) (h : i < l.length) : rd l i ∈ l := by
  have e := rd_get l i.toNat (by omega)
  rw [show ((i.toNat : Nat) : Int) = i by omega] at e
  rw [e]; exact List.getElem_mem _

theorem in_any (a lo hi : Int) : impl_in.f a lo hi = some (decide (lo ≤ a ∧ a ≤ hi)) := by
  unfold impl_in.f
  by_cases h : lo ≤ a <;> simp [h]
theorem l1In_any (a lo hi : Int) : spec_l1In.f a lo hi = some (decide (lo ≤ a ∧ a ≤ hi)) := by
  unfold spec_l1In.f
  by_cases h : lo ≤ a
  · rw [if_pos h]; simp [h]
  · rw [if_neg h]; simp [h]

/-! ### impl.isSystem, spec.ahGood: both tell whether a list is a system -/
def AllIn (n : Int) (q : Int → Int) (i : Int) : Prop := ∀ j : Int, i ≤ j → j < n → 0 ≤ q j ∧ q j < n ∧ q j ≠ j ∧ q (q j) = j
def NoCross (n : Int) (q : Int → Int) (i : Int) : Prop := ∀ a b, i ≤ a → a < n → a < b → b < q a → a ≤ q b ∧ q b ≤ q a
theorem sys_of {n : Int} {q : Int → Int} : Pl.Sys n q ↔ AllIn n q 0 ∧ NoCross n q 0 :=
  ⟨fun s => ⟨fun j h0 h1 => ⟨s.lo j h0 h1, s.hi j h0 h1, s.ne j h0 h1, s.inv j h0 h1⟩, s.cr⟩,
   fun ⟨h, c⟩ => ⟨fun j h0 h1 => (h j h0 h1).1, fun j h0 h1 => (h j h0 h1).2.1, fun j h0 h1 => (h j h0 h1).2.2.1, fun j h0 h1 => (h j h0 h1).2.2.2, c⟩⟩

theorem isSystem_l2 (l : List Int) (hn : l.length < 4611686018427387904) (a : Int) (ha : 0 ≤ a) (hal : a < l.length) (hA : AllIn l.length (rd l) 0)
    (h1 : (∃ K, ∀ k, K ≤ k → impl_isSystem.l1 k l l l.length (a + 1) = some (tf (NoCross l.length (rd l) (a + 1))))) (d : Nat) :
    ∀ b : Int, a < b → rd l a - b ≤ d → (∃ K, ∀ k, K ≤ k → impl_isSystem.l2 k l a (rd l a) b l l.length a = some (tf ((∀ b' : Int, b ≤ b' → b' < rd l a → a ≤ rd l b' ∧ rd l b' ≤ rd l a) ∧ NoCross l.length (rd l) (a + 1)))) := by
  have hq := hA a ha hal
  obtain ⟨K1, h1⟩ := h1
  have out : ∀ b : Int, a < b → ¬ b < rd l a → (∃ K, ∀ k, K ≤ k → impl_isSystem.l2 k l a (rd l a) b l l.length a = some (tf ((∀ b' : Int, b ≤ b' → b' < rd l a → a ≤ rd l b' ∧ rd l b' ≤ rd l a) ∧ NoCross l.length (rd l) (a + 1)))) := by
    intro b hb hlt
    refine ev_rs K1 fun m hm => ?_
    simp (disch := omega) only [impl_isSystem.l2, if_neg, w64]
    rw [h1 m hm]
    congr 1
    exact tf_c ⟨fun h => ⟨fun b' _ _ => by omega, h⟩, fun h => h.2⟩
  induction d with
  | zero =>
    intro b hb hd
    exact out b hb (by omega)
  | succ d ih =>
    intro b hb hd
    by_cases hlt : b < rd l a
    · obtain ⟨K, ih⟩ := ih (b + 1) (by omega) (by omega)
      by_cases he : a ≤ rd l b ∧ rd l b ≤ rd l a
      · refine ev_rs K fun m hm => ?_
        simp (disch := omega) only [impl_isSystem.l2, if_pos, w64, in_any, Option.bind_some]
        rw [decide_eq_true he]
        simp only [if_true]
        rw [ih m hm]
        congr 1
        refine tf_c ⟨fun h => ⟨fun b' h2 h3 => ?_, h.2⟩, fun h => ⟨fun b' h2 h3 => h.1 b' (by omega) h3, h.2⟩⟩
        by_cases e : b' = b
        · rw [e]; exact he
        · exact h.1 b' (by omega) h3
      · refine ev_rs 0 fun m hm => ?_
        simp (disch := omega) only [impl_isSystem.l2, if_pos, in_any, Option.bind_some]
        rw [decide_eq_false he, tf_f]
        · simp
        · exact fun h => he (h.1 b (Int.le_refl _) hlt)
    · exact out b hb hlt
theorem isSystem_l1 (l : List Int) (hn : l.length < 4611686018427387904) (hA : AllIn l.length (rd l) 0) (d : Nat) : ∀ a : Int, 0 ≤ a → (l.length : Int) - a ≤ d →
    (∃ K, ∀ k, K ≤ k → impl_isSystem.l1 k l l l.length a = some (tf (NoCross l.length (rd l) a))) := by
  have out : ∀ a : Int, ¬ a < l.length → (∃ K, ∀ k, K ≤ k → impl_isSystem.l1 k l l l.length a = some (tf (NoCross l.length (rd l) a))) := by
    intro a hlt
    refine ev_rs 0 fun m hm => ?_
    simp (disch := omega) only [impl_isSystem.l1, if_neg]
    rw [tf_t]
    intro a' b h1 h2; omega
  induction d with
  | zero => intro a h0 hd; exact out a (by omega)
  | succ d ih =>
    intro a h0 hd
    by_cases hlt : a < (l.length : Int)
    · have h1 := ih (a + 1) (by omega) (by omega)
      have hq := hA a h0 hlt
      obtain ⟨K, h2⟩ := isSystem_l2 l hn a h0 hlt hA h1 (rd l a - (a + 1)).toNat (a + 1) (by omega) (by omega)
      refine ev_rs K fun m hm => ?_
      simp (disch := omega) only [impl_isSystem.l1, if_pos, w64]
      rw [h2 m hm]
      congr 1
      refine tf_c ⟨fun h a' b h3 h4 h5 h6 => ?_, fun h => ⟨fun b' h3 h4 => h a b' (Int.le_refl _) hlt (by omega) h4, fun a' b h3 h4 h5 h6 => h a' b (by omega) h4 h5 h6⟩⟩
      by_cases e : a' = a
      · subst e; exact h.1 b (by omega) h6
      · exact h.2 a' b (by omega) h4 h5 h6
    · exact out a hlt
theorem isSystem_l0 (l : List Int) (hn : l.length < 4611686018427387904) (d : Nat) : ∀ i : Int, 0 ≤ i → (l.length : Int) - i ≤ d → (∀ j : Int, 0 ≤ j → j < i → 0 ≤ rd l j ∧ rd l j < l.length ∧ rd l j ≠ j ∧ rd l (rd l j) = j) →
    (∃ K, ∀ k, K ≤ k → impl_isSystem.l0 k l l l.length i = some (tf (AllIn l.length (rd l) i ∧ NoCross l.length (rd l) 0))) := by
  have out : ∀ i : Int, 0 ≤ i → ¬ i < l.length → (∀ j : Int, 0 ≤ j → j < i → 0 ≤ rd l j ∧ rd l j < l.length ∧ rd l j ≠ j ∧ rd l (rd l j) = j) → (∃ K, ∀ k, K ≤ k → impl_isSystem.l0 k l l l.length i = some (tf (AllIn l.length (rd l) i ∧ NoCross l.length (rd l) 0))) := by
    intro i h0 hlt hp
    obtain ⟨K, h1⟩ := isSystem_l1 l hn (fun j h1 h2 => hp j h1 (by omega)) l.length 0 (by omega) (by omega)
    refine ev_rs K fun m hm => ?_
    simp (disch := omega) only [impl_isSystem.l0, if_neg]
    rw [h1 m hm]
    congr 1
    exact tf_c ⟨fun h => ⟨fun j _ _ => by omega, h⟩, fun h => h.2⟩
  induction d with
  | zero => intro i h0 hd hp; exact out i h0 (by omega) hp
  | succ d ih =>
    intro i h0 hd hp
    by_cases hlt : i < (l.length : Int)
    · by_cases hr : 0 ≤ rd l i ∧ rd l i ≤ (l.length : Int) - 1
      · by_cases hs : rd l i = i
        · refine ev_rs 0 fun m hm => ?_
          simp (disch := omega) only [impl_isSystem.l0, if_pos, w64, in_any, Option.bind_some]
          rw [decide_eq_true hr, tf_f]
          · simp [hs]
          · exact fun h => (h.1 i (Int.le_refl _) hlt).2.2.1 hs
        · by_cases hi : rd l (rd l i) = i
          · obtain ⟨K, ih⟩ := ih (i + 1) (by omega) (by omega) (fun j h1 h2 => by
              by_cases e : j = i
              · subst e; exact ⟨by omega, by omega, hs, hi⟩
              · exact hp j h1 (by omega))
            refine ev_rs K fun m hm => ?_
            simp (disch := omega) only [impl_isSystem.l0, if_pos, if_neg, w64, in_any, Option.bind_some]
            rw [decide_eq_true hr, if_pos rfl, ih m hm]
            congr 1
            refine tf_c ⟨fun h => ⟨fun j h1 h2 => ?_, h.2⟩, fun h => ⟨fun j h1 h2 => h.1 j (by omega) h2, h.2⟩⟩
            by_cases e : j = i
            · subst e; exact ⟨by omega, by omega, hs, hi⟩
            · exact h.1 j (by omega) h2
          · refine ev_rs 0 fun m hm => ?_
            simp (disch := omega) only [impl_isSystem.l0, if_pos, if_neg, w64, in_any, Option.bind_some]
            rw [decide_eq_true hr, tf_f]
            · simp
            · exact fun h => hi (h.1 i (Int.le_refl _) hlt).2.2.2
      · refine ev_rs 0 fun m hm => ?_
        simp (disch := omega) only [impl_isSystem.l0, if_pos, w64, in_any, Option.bind_some]
        rw [decide_eq_false hr, tf_f]
        · simp
        · exact fun h => hr (by have := h.1 i (Int.le_refl _) hlt; omega)
    · exact out i h0 hlt hp
/-- Is a list a system of at most six arches? -/
noncomputable def sysB (l : List Int) : Bool := tf (l.length ≤ 12 ∧ Pl.Sys l.length (rd l))
theorem isSystem_any (l : List Int) (hn : l.length < 4611686018427387904) : (∃ K, ∀ k, K ≤ k → impl_isSystem.f k l = some (tf (Pl.Sys l.length (rd l)))) := by
  obtain ⟨K, h⟩ := isSystem_l0 l hn l.length 0 (by omega) (by omega) (fun j _ _ => by omega)
  refine ⟨K, fun k hk => ?_⟩
  unfold impl_isSystem.f
  rw [h k hk]
  exact congrArg _ (tf_c sys_of.symm)
theorem IsSystem_any (l : List Int) (hn : l.length < 4611686018427387904) : (∃ K, ∀ k, K ≤ k → impl_IsSystem.f k l = some (sysB l)) := by
  obtain ⟨K, h⟩ := isSystem_any l hn
  refine ⟨K, fun k hk => ?_⟩
  unfold impl_IsSystem.f sysB
  by_cases h12 : (l.length : Int) ≤ 12
  · rw [if_pos h12, h k hk]
    exact congrArg _ (tf_c ⟨fun h => ⟨by omega, h⟩, fun h => h.2⟩)
  · rw [if_neg h12, tf_f]
    exact fun h => h12 (by omega)
theorem l1All_l (l : List Int) (hn : l.length < 4611686018427387904) (lo hi : Int) (d : Nat) : ∀ i : Int, 0 ≤ i → (l.length : Int) - i ≤ d →
    (∃ K, ∀ k, K ≤ k → spec_l1All.l0 k lo hi l l.length i = some (tf (∀ j : Int, i ≤ j → j < l.length → lo ≤ rd l j ∧ rd l j ≤ hi))) := by
  have out : ∀ i : Int, ¬ i < l.length → (∃ K, ∀ k, K ≤ k → spec_l1All.l0 k lo hi l l.length i = some (tf (∀ j : Int, i ≤ j → j < l.length → lo ≤ rd l j ∧ rd l j ≤ hi))) := by
    intro i hlt
    refine ev_rs 0 fun m hm => ?_
    simp (disch := omega) only [spec_l1All.l0, if_neg]
    rw [tf_t]
    intro j h1 h2; omega
  induction d with
  | zero => intro i h0 hd; exact out i (by omega)
  | succ d ih =>
    intro i h0 hd
    by_cases hlt : i < (l.length : Int)
    · obtain ⟨K, ih⟩ := ih (i + 1) (by omega) (by omega)
      by_cases he : lo ≤ rd l i ∧ rd l i ≤ hi
      · refine ev_rs K fun m hm => ?_
        simp (disch := omega) only [spec_l1All.l0, if_pos, w64, l1In_any, Option.bind_some]
        rw [decide_eq_true he, if_pos rfl, ih m hm]
        congr 1
        refine tf_c ⟨fun h j h1 h2 => ?_, fun h j h1 h2 => h j (by omega) h2⟩
        by_cases e : j = i
        · rw [e]; exact he
        · exact h j (by omega) h2
      · refine ev_rs 0 fun m hm => ?_
        simp (disch := omega) only [spec_l1All.l0, if_pos, l1In_any, Option.bind_some]
        rw [decide_eq_false he, tf_f]
        · simp
        · exact fun h => he (h i (Int.le_refl _) hlt)
    · exact out i hlt
theorem l1All_any (l : List Int) (hn : l.length < 4611686018427387904) (lo hi : Int) : (∃ K, ∀ k, K ≤ k → spec_l1All.f k l lo hi = some (tf (∀ j : Int, 0 ≤ j → j < l.length → lo ≤ rd l j ∧ rd l j ≤ hi))) :=
  l1All_l l hn lo hi l.length 0 (by omega) (by omega)
theorem ahGood_l (l : List Int) (hn : l.length ≤ 12) (hR : ∀ j : Int, 0 ≤ j → j < l.length → 0 ≤ rd l j ∧ rd l j ≤ (l.length : Int) - 1) (d : Nat) : ∀ (i : Int) (op : List Int), 0 ≤ i → i ≤ l.length → (l.length : Int) - i ≤ d → (op.length : Int) ≤ i →
    Pl.Ideal (rd l) i op ∨ (Pl.Doomed l.length (rd l) i op ∧ ¬ Pl.Sys l.length (rd l)) →
    (∃ K, ∀ k, K ≤ k → spec_ahGood.l0 k l op l l.length i = some (tf (Pl.Sys l.length (rd l)))) := by
  have out : ∀ (i : Int) (op : List Int), i ≤ l.length → ¬ i < l.length → Pl.Ideal (rd l) i op ∨ (Pl.Doomed l.length (rd l) i op ∧ ¬ Pl.Sys l.length (rd l)) →
    (∃ K, ∀ k, K ≤ k → spec_ahGood.l0 k l op l l.length i = some (tf (Pl.Sys l.length (rd l)))) := by
    intro i op hi hlt h
    rcases h with h | h
    · have e : i = l.length := by omega
      subst e
      refine ev_rs 0 fun m hm => ?_
      simp (disch := omega) only [spec_ahGood.l0, if_neg]
      rw [tf_t (h.finish (fun j h0 h1 => (hR j h0 h1).1) (fun j h0 h1 => by have := hR j h0 h1; omega))]
    · have := h.1.lt; omega
  induction d with
  | zero => intro i op h0 hi hd hop h; exact out i op hi (by omega) h
  | succ d ih =>
    intro i op h0 hi hd hop h
    by_cases hlt : i < (l.length : Int)
    · have hr := hR i h0 hlt
      by_cases hgt : rd l i > i
      · by_cases he : rd l (rd l i) = i
        · -- an arch begins
          obtain ⟨K, ih⟩ := ih (i + 1) (i :: op) (by omega) (by omega) (by omega) (by simp; omega) (by
            rcases h with h | h
            · exact .inl (h.push h0 hgt he)
            · exact .inr ⟨h.1.push hgt, h.2⟩)
          refine ev_rs (K + 1) fun m hm => ?_
          obtain ⟨m, rfl⟩ : ∃ m', m = m' + 1 := ⟨m - 1, by omega⟩
          have hb : (rd l (rd l i) == i) = true := by simp [he]
          simp (disch := omega) only [spec_ahGood.l0, if_pos, w64]
          rw [hb]
          simp only [spec_ahGood.j2, if_true, Option.bind_some]
          rw [if_pos (by simp; omega), w64 (by omega) (by omega)]
          exact ih m (by omega)
        · have hb : (rd l (rd l i) == i) = false := by simp [he]
          refine ev_rs 1 fun m hm => ?_
          obtain ⟨m, rfl⟩ : ∃ m', m = m' + 1 := ⟨m - 1, by omega⟩
          simp (disch := omega) only [spec_ahGood.l0, if_pos, w64]
          rw [hb, tf_f (Pl.Ideal.fail_push he h0 hlt)]
          simp (disch := omega) only [spec_ahGood.j2, Bool.false_eq_true, if_false, if_neg]
      · by_cases hs : rd l i = i
        · refine ev_rs 1 fun m hm => ?_
          obtain ⟨m, rfl⟩ : ∃ m', m = m' + 1 := ⟨m - 1, by omega⟩
          simp (disch := omega) only [spec_ahGood.l0, if_pos, if_neg, w64]
          rw [tf_f (Pl.Ideal.fail_self hs h0 hlt)]
          simp (disch := omega) only [spec_ahGood.j2, Bool.false_eq_true, if_false, if_neg]
        · have hls : rd l i < i := by omega
          have stop : op.head? ≠ some (rd l i) → ¬ Pl.Sys l.length (rd l) := fun hh => by
            rcases h with h | h
            · exact h.fail_pop h0 hlt hls hh
            · exact h.2
          cases op with
          | nil =>
            refine ev_rs 1 fun m hm => ?_
            obtain ⟨m, rfl⟩ : ∃ m', m = m' + 1 := ⟨m - 1, by omega⟩
            simp (disch := omega) only [spec_ahGood.l0, if_pos, if_neg, w64]
            rw [tf_f (stop (by simp))]
            simp (disch := omega) only [spec_ahGood.j2, Bool.false_eq_true, if_false, if_pos]
            simp
          | cons b t =>
            have hd0 : rd (b :: t) 0 = b := rfl
            by_cases hbt : b = rd l i
            · obtain ⟨K, ih⟩ := ih (i + 1) t (by omega) (by omega) (by omega) (by simp at hop; omega) (by
                rcases h with h | h
                · by_cases he : rd l b = i
                  · exact .inl (h.pop h0 hbt.symm (by omega) he (fun b h1 h2 => (hR b h1 (by omega)).1))
                  · refine .inr ⟨h.doom h0 hbt.symm (by omega) he ?_, ?_⟩
                    · have := (hR b (by omega) (by omega)).2; omega
                    · intro s
                      have := s.inv i h0 hlt
                      rw [← hbt] at this; exact he this
                · exact .inr ⟨h.1.pop hbt.symm, h.2⟩)
              refine ev_rs (K + 1) fun m hm => ?_
              obtain ⟨m, rfl⟩ : ∃ m', m = m' + 1 := ⟨m - 1, by omega⟩
              simp (disch := omega) only [spec_ahGood.l0, if_pos, if_neg, w64]
              simp only [spec_ahGood.j2, Bool.false_eq_true, if_false]
              rw [if_pos hls, if_pos (by simp), if_pos (by simp), hd0, if_pos hbt, if_pos (by simp; omega), w64 (by omega) (by omega)]
              exact ih m (by omega)
            · refine ev_rs 1 fun m hm => ?_
              obtain ⟨m, rfl⟩ : ∃ m', m = m' + 1 := ⟨m - 1, by omega⟩
              simp (disch := omega) only [spec_ahGood.l0, if_pos, if_neg, w64]
              simp only [spec_ahGood.j2, Bool.false_eq_true, if_false]
              rw [if_pos hls, if_pos (by simp), if_pos (by simp), hd0, if_neg hbt, tf_f (stop (by simpa using hbt))]
    · exact out i op hi hlt h
theorem ahGood_any (l : List Int) (hn : l.length < 4611686018427387904) : (∃ K, ∀ k, K ≤ k → spec_ahGood.f k l = some (sysB l)) := by
  unfold sysB
  by_cases h2 : (l.length : Int) % 2 = 1
  · refine ev_rs 0 fun m hm => ?_
    unfold spec_ahGood.f
    rw [if_pos h2, tf_f]
    · simp [spec_ahGood.j0]
    · intro h
      have := h.2.even (by omega)
      omega
  · by_cases h12 : (l.length : Int) > 12
    · refine ev_rs 0 fun m hm => ?_
      unfold spec_ahGood.f
      rw [if_neg h2, if_pos h12, tf_f]
      · simp [spec_ahGood.j0]
      · intro h; omega
    · obtain ⟨K, h⟩ := l1All_any l hn 0 ((l.length : Int) - 1)
      by_cases hR : ∀ j : Int, 0 ≤ j → j < (l.length : Int) → 0 ≤ rd l j ∧ rd l j ≤ (l.length : Int) - 1
      · obtain ⟨K2, h3⟩ := ahGood_l l (by omega) hR l.length 0 [] (by omega) (by omega) (by omega) (by simp) (.inl (.start _))
        refine ev_rs (K + K2) fun m hm => ?_
        unfold spec_ahGood.f
        rw [if_neg h2, if_neg h12, w64 (by omega) (by omega), h (m + 1) (by omega), tf_t hR]
        simp only [Option.bind_some, Bool.not_true, spec_ahGood.j0, Bool.false_eq_true, if_false]
        rw [h3 m (by omega)]
        exact congrArg _ (tf_c ⟨fun h => ⟨by omega, h⟩, fun h => h.2⟩)
      · refine ev_rs K fun m hm => ?_
        unfold spec_ahGood.f
        rw [if_neg h2, if_neg h12, w64 (by omega) (by omega), h (m + 1) (by omega), tf_f hR, tf_f]
        · simp [spec_ahGood.j0]
        · intro s
          exact hR fun j h0 h1 => ⟨s.2.lo j h0 h1, by have := s.2.hi j h0 h1; omega⟩

theorem sysB_mem {l : List Int} (h : sysB l = true) : l.length / 2 < 7 ∧ l ∈ Pl.sysList (l.length / 2) := by
  have := tf_iff.1 h
  exact ⟨by omega, Pl.Sys.mem this.2 this.1⟩
/-- What holds of every listed system holds of each list that is one. -/
theorem of_table {P : List Int → Bool} (h : ((List.range 7).all fun n => (Pl.sysList n).all P) = true) {l : List Int} (hl : sysB l = true) : P l = true := by
  obtain ⟨h7, hm⟩ := sysB_mem hl
  exact List.all_eq_true.1 (List.all_eq_true.1 h _ (List.mem_range.2 h7)) _ hm

/-! ### tables in parts -/
theorem all_chunks {α : Type} (P : α → Bool) (c : Nat) (m : Nat) : ∀ l : List α, l.length ≤ c * m → (∀ i, i < m → ((l.drop (c * i)).take c).all P = true) → l.all P = true := by
  induction m with
  | zero =>
    intro l hl _
    have e : l = [] := List.eq_nil_of_length_eq_zero (by omega)
    subst e; rfl
  | succ m ih =>
    intro l hl h
    rw [← List.take_append_drop c l, List.all_append, Bool.and_eq_true]
    refine ⟨?_, ih _ (by rw [List.length_drop, Nat.mul_succ] at *; omega) fun i hi => ?_⟩
    · have := h 0 (by omega)
      simpa using this
    · have := h (i + 1) (by omega)
      rw [List.drop_drop]
      rw [show c * (i + 1) = c + c * i by rw [Nat.mul_succ, Nat.add_comm]] at this
      exact this
theorem len6 : (Pl.sysList 6).length = 132 := by decide +kernel
theorem len5 : (Pl.sysList 5).length = 42 := by decide +kernel
/-- A table of all systems, of its parts. -/
theorem tab_of {P : List Int → Bool} (h : ((List.range 5).all fun n => (Pl.sysList n).all P) = true) (h5 : ∀ i, i < 3 → (((Pl.sysList 5).drop (14 * i)).take 14).all P = true)
    (h6 : ∀ i, i < 6 → (((Pl.sysList 6).drop (22 * i)).take 22).all P = true) : ((List.range 7).all fun n => (Pl.sysList n).all P) = true := by
  rw [List.all_eq_true] at h ⊢
  intro n hn
  have hn := List.mem_range.1 hn
  by_cases h1 : n < 5
  · exact h n (List.mem_range.2 h1)
  · by_cases h2 : n = 5
    · subst h2; exact all_chunks P 14 3 _ (by rw [len5]; omega) h5
    · have e : n = 6 := by omega
      subst e; exact all_chunks P 22 6 _ (by rw [len6]; omega) h6

/-! ### impl.DropArch, spec.ahWithout -/
def dropL (l : List Int) (i : Int) : List Int := (spec_ahWithout.f 60 l i).getD []
theorem drop_table : ((List.range 7).all fun n => (Pl.sysList n).all fun p => (List.range p.length).all fun i =>
    (spec_ahWithout.f 60 p (i : Nat)).isSome && (impl_without.f (impl_DropArch.phi p (i : Nat)) 60 p == spec_ahWithout.f 60 p (i : Nat)) && decide ((dropL p (i : Nat)).length ≤ 12)) = true := by decide +kernel
theorem drop_ok {l : List Int} (hl : sysB l = true) {i : Int} (h0 : 0 ≤ i) (h1 : i < l.length) :
    spec_ahWithout.f 60 l i = some (dropL l i) ∧ impl_without.f (impl_DropArch.phi l i) 60 l = some (dropL l i) ∧ (dropL l i).length ≤ 12 := by
  have h := of_table (P := fun p => (List.range p.length).all fun i =>
    (spec_ahWithout.f 60 p (i : Nat)).isSome && (impl_without.f (impl_DropArch.phi p (i : Nat)) 60 p == spec_ahWithout.f 60 p (i : Nat)) && decide ((dropL p (i : Nat)).length ≤ 12)) drop_table hl
  have h := List.all_eq_true.1 h i.toNat (List.mem_range.2 (by omega))
  rw [show ((i.toNat : Nat) : Int) = i by omega] at h
  simp only [Bool.and_eq_true, decide_eq_true_eq, beq_iff_eq] at h
  obtain ⟨⟨a, b⟩, c⟩ := h
  obtain ⟨x, hx⟩ := Option.isSome_iff_exists.1 a
  have hd : dropL l i = x := by unfold dropL; rw [hx]; rfl
  rw [hd] at c ⊢
  exact ⟨hx, b.trans hx, c⟩
noncomputable def dropR (l : List Int) (i : Int) : List Int × Bool := if sysB l = true ∧ (0 ≤ i ∧ i ≤ (l.length : Int) - 1) ∧ ¬ rd l i < i then (dropL l i, true) else ([], false)
theorem dropR_length (l : List Int) (i : Int) : (dropR l i).1.length ≤ 12 := by
  unfold dropR
  split
  · rename_i h; exact (drop_ok h.1 h.2.1.1 (by omega)).2.2
  · simp
theorem implDrop_any (l : List Int) (i : Int) (hn : l.length ≤ 35184372088832) : (∃ K, ∀ k, K ≤ k → impl_DropArch.f k l i = some (dropR l i)) := by
  obtain ⟨K1, h1⟩ := IsSystem_any l (by omega)
  unfold dropR
  cases hB : sysB l with
  | false => rw [hB] at h1; exact ⟨K1, fun k hk => by simp [impl_DropArch.f, h1 k hk]⟩
  | true =>
    rw [hB] at h1
    by_cases hi : 0 ≤ i ∧ i ≤ (l.length : Int) - 1
    · by_cases hr : rd l i < i
      · refine ⟨K1, fun k hk => ?_⟩
        simp (disch := omega) only [impl_DropArch.f, h1, in_any, w64, decide_eq_true hi, Option.bind_some, if_pos]
        simp [hr]
      · have hd := (drop_ok hB hi.1 (by omega)).2.1
        refine ⟨K1 + 60, fun k hk => ?_⟩
        have hd' := at_rounds (fun k => impl_without.mono (impl_DropArch.phi l i) l k) (show 60 ≤ k by omega) hd
        simp (disch := omega) only [impl_DropArch.f, h1, in_any, w64, decide_eq_true hi, Option.bind_some, if_pos, if_neg, hd']
        simp [hr, hi]
    · refine ⟨K1, fun k hk => ?_⟩
      simp (disch := omega) only [impl_DropArch.f, h1, in_any, w64, Option.bind_some, if_true]
      simp [hi]
theorem specDrop_any (l : List Int) (i : Int) (hn : l.length ≤ 35184372088832) : (∃ K, ∀ k, K ≤ k → spec_DropArch.f k l i = some (dropR l i)) := by
  obtain ⟨K1, h1⟩ := ahGood_any l (by omega)
  unfold dropR
  cases hB : sysB l with
  | false => rw [hB] at h1; exact ⟨K1, fun k hk => by simp [spec_DropArch.f, h1 k hk]⟩
  | true =>
    rw [hB] at h1
    by_cases hi : 0 ≤ i ∧ i ≤ (l.length : Int) - 1
    · by_cases hr : rd l i < i
      · refine ⟨K1, fun k hk => ?_⟩
        simp (disch := omega) only [spec_DropArch.f, h1, l1In_any, w64, decide_eq_true hi, Option.bind_some, if_pos]
        simp [hr]
      · have hd := (drop_ok hB hi.1 (by omega)).1
        refine ⟨K1 + 60, fun k hk => ?_⟩
        have hd' := at_rounds (fun k => spec_ahWithout.mono l i k) (show 60 ≤ k by omega) hd
        simp (disch := omega) only [spec_DropArch.f, h1, l1In_any, w64, decide_eq_true hi, Option.bind_some, if_pos, if_neg, hd']
        simp [hr, hi]
    · refine ⟨K1, fun k hk => ?_⟩
      simp (disch := omega) only [spec_DropArch.f, h1, l1In_any, w64, Option.bind_some, if_true]
      simp [hi]

/-! ### impl.PutArch, spec.PutArch -/
/-- Where a point comes to lie, when two points a < b are put in. -/
def place (a b k : Int) : Int := if (if k ≥ a then k + 1 else k) ≥ b then (if k ≥ a then k + 1 else k) + 1 else (if k ≥ a then k + 1 else k)
theorem place_phi (a b k : Int) (h0 : 0 ≤ k) (h1 : k ≤ 1048576) : impl_PutArch.phi a b k = some (place a b k) := by
  unfold impl_PutArch.phi impl_PutArch.up place
  rw [w64 (x := k + 1) (by omega) (by omega)]
  by_cases h : k ≥ a
  · simp only [if_pos h]
    rw [w64 (x := k + 1 + 1) (by omega) (by omega)]
  · simp only [if_neg h]
    rw [w64 (x := k + 1) (by omega) (by omega)]
theorem place_in (a b k n : Int) (h0 : 0 ≤ k) (h1 : k < n) (ha : 0 ≤ a) : 0 ≤ place a b k ∧ place a b k < n + 2 := by
  unfold place
  split <;> split <;> omega
def putF (l : List Int) (a b : Int) : Nat → List Int → Int → List Int
  | 0, out, _ => out
  | d + 1, out, k => putF l a b d (out.set (place a b k).toNat (place a b (rd l k))) (k + 1)
theorem putF_length (l : List Int) (a b : Int) (d : Nat) : ∀ out k, (putF l a b d out k).length = out.length := by
  induction d with
  | zero => intro out k; rfl
  | succ d ih => intro out k; unfold putF; rw [ih]; simp
def put0 (l : List Int) (a b : Int) : List Int := ((List.replicate (l.length + 2) 0).set a.toNat b).set b.toNat a
def putL (l : List Int) (a b : Int) : List Int := putF l a b l.length (put0 l a b) 0
theorem putL_length (l : List Int) (a b : Int) : (putL l a b).length = l.length + 2 := by
  unfold putL put0; rw [putF_length]; simp
noncomputable def putE (o : List Int) : List Int × Bool := if tf (Pl.Sys o.length (rd o)) = true then (o, true) else ([], false)
theorem putE_eq (o : List Int) : (if tf (Pl.Sys o.length (rd o)) = true then some (o, true) else some (([] : List Int), false)) = some (putE o) := by
  unfold putE
  split <;> rfl
theorem implPut_l (l : List Int) (hl : l.length ≤ 12) (hs : ∀ j : Int, 0 ≤ j → j < l.length → 0 ≤ rd l j ∧ rd l j < (l.length : Nat)) (a b : Int) (ha : 0 ≤ a) (d : Nat) : ∀ (out : List Int) (k : Int), 0 ≤ k → (l.length : Int) = k + d → out.length = l.length + 2 →
    (∃ K, ∀ n, K ≤ n → impl_PutArch.l0 (impl_PutArch.phi a b) n out l l.length k = some (putE (putF l a b d out k))) := by
  induction d with
  | zero =>
    intro out k h0 hd ho
    obtain ⟨K, h⟩ := isSystem_any out (by omega)
    refine ev_rs K fun m hm => ?_
    simp (disch := omega) only [impl_PutArch.l0, if_neg, h, Option.bind_some]
    exact putE_eq out
  | succ d ih =>
    intro out k h0 hd ho
    obtain ⟨s0, s1⟩ := hs k h0 (by omega)
    obtain ⟨p0, p1⟩ := place_in a b k l.length h0 (by omega) ha
    obtain ⟨K, ih⟩ := ih (out.set (place a b k).toNat (place a b (rd l k))) (k + 1) (by omega) (by omega) (by simpa using ho)
    refine ev_rs K fun m hm => ?_
    simp (disch := omega) only [impl_PutArch.l0, if_pos, place_phi, Option.bind_some, w64, putF]
    exact ih m hm
theorem sysB_even {l : List Int} (h : sysB l = true) : l.length % 2 = 0 := by
  have t : ((List.range 7).all fun n => (Pl.sysList n).all fun p => p.length % 2 == 0) = true := by decide +kernel
  exact beq_iff_eq.1 (of_table (P := fun p => p.length % 2 == 0) t h)
theorem sysB_rd {l : List Int} (h : sysB l = true) : l.length ≤ 12 ∧ ∀ j : Int, 0 ≤ j → j < l.length → 0 ≤ rd l j ∧ rd l j < (l.length : Nat) := by
  have h := tf_iff.1 h
  exact ⟨h.1, fun j h0 h1 => ⟨h.2.lo j h0 h1, h.2.hi j h0 h1⟩⟩
noncomputable def putR (l : List Int) (a b : Int) : List Int × Bool :=
  if sysB l = true ∧ ¬ (l.length : Int) = 12 ∧ 0 ≤ a ∧ a < b ∧ b ≤ (l.length : Int) + 1 then putE (putL l a b) else ([], false)
theorem putR_length (l : List Int) (a b : Int) : (putR l a b).1.length ≤ 14 := by
  unfold putR
  split
  · rename_i h
    have := (sysB_rd h.1).1
    unfold putE
    split
    · simp only []; rw [putL_length]; omega
    · simp
  · simp
theorem implPut_j (l : List Int) (hl : l.length ≤ 12) (hs : ∀ j : Int, 0 ≤ j → j < l.length → 0 ≤ rd l j ∧ rd l j < (l.length : Nat)) (a b : Int) (ha : 0 ≤ a) (hab : a < b) (hb : b ≤ (l.length : Int) + 1) :
    (∃ K, ∀ n, K ≤ n → impl_PutArch.j0 (impl_PutArch.phi a b) n l a b false = some (putE (putL l a b))) := by
  obtain ⟨K, h⟩ := implPut_l l hl hs a b ha l.length (put0 l a b) 0 (by omega) (by omega) (by simp [put0])
  refine ev_rs K fun m hm => ?_
  have e : ((l.length : Int) + 2).toNat = l.length + 2 := by omega
  simp (disch := omega) only [impl_PutArch.j0, Bool.false_eq_true, if_false, w64, if_pos, e, Option.bind_some, List.length_replicate]
  exact h m hm
theorem implPut_t (φ : Int → Option Int) (m : Nat) (l : List Int) (a b : Int) : impl_PutArch.j0 φ (m + 1) l a b true = some ([], false) := by rw [impl_PutArch.j0, if_pos rfl]
theorem implPut_any (l : List Int) (a b : Int) (hn : l.length ≤ 1048576) : (∃ K, ∀ k, K ≤ k → impl_PutArch.f k l a b = some (putR l a b)) := by
  obtain ⟨K1, h1⟩ := IsSystem_any l (by omega)
  by_cases hB : sysB l = true
  · rw [hB] at h1
    obtain ⟨hl, hs⟩ := sysB_rd hB
    by_cases h12 : (l.length : Int) = 12
    · refine ⟨K1 + 1, fun k hk => ?_⟩
      obtain ⟨m, rfl⟩ : ∃ m, k = m + 1 := ⟨k - 1, by omega⟩
      simp (disch := omega) only [impl_PutArch.f, h1, Option.bind_some, if_true, if_pos h12, implPut_t]
      rw [putR, if_neg (fun h => h.2.1 h12)]
    · by_cases c1 : 0 ≤ a ∧ a ≤ (l.length : Int)
      · by_cases c2 : a + 1 ≤ b ∧ b ≤ (l.length : Int) + 1
        · obtain ⟨K2, h2⟩ := implPut_j l hl hs a b c1.1 (by omega) c2.2
          refine ⟨K1 + K2 + 1, fun k hk => ?_⟩
          simp (disch := omega) only [impl_PutArch.f, h1, Option.bind_some, if_true, if_neg h12, in_any, decide_eq_true c1, w64, decide_eq_true c2, Bool.not_true, h2]
          rw [putR, if_pos ⟨hB, h12, c1.1, by omega, c2.2⟩]
        · refine ⟨K1 + 1, fun k hk => ?_⟩
          obtain ⟨m, rfl⟩ : ∃ m, k = m + 1 := ⟨k - 1, by omega⟩
          simp (disch := omega) only [impl_PutArch.f, h1, Option.bind_some, if_true, if_neg h12, in_any, decide_eq_true c1, w64, decide_eq_false c2, Bool.not_false, implPut_t]
          rw [putR, if_neg (fun h => c2 ⟨by omega, h.2.2.2.2⟩)]
      · refine ⟨K1 + 1, fun k hk => ?_⟩
        obtain ⟨m, rfl⟩ : ∃ m, k = m + 1 := ⟨k - 1, by omega⟩
        simp (disch := omega) only [impl_PutArch.f, h1, Option.bind_some, if_true, if_neg h12, in_any, decide_eq_false c1, Bool.false_eq_true, if_false, implPut_t]
        rw [putR, if_neg (fun h => c1 ⟨h.2.2.1, by omega⟩)]
  · replace hB := Bool.eq_false_iff.2 hB
    rw [hB] at h1
    refine ⟨K1 + 1, fun k hk => ?_⟩
    obtain ⟨m, rfl⟩ : ∃ m, k = m + 1 := ⟨k - 1, by omega⟩
    simp (disch := omega) only [impl_PutArch.f, h1, Option.bind_some, Bool.false_eq_true, if_false, implPut_t, if_true]
    rw [putR, if_neg (fun h => by rw [hB] at h; exact absurd h.1 (by decide))]
theorem rd_snoc (l : List Int) (x k : Int) (h0 : 0 ≤ k) (h1 : k ≤ l.length) : rd (l ++ [x]) k = if k = l.length then x else rd l k := by
  rw [rd_def, rd_def, List.getD_eq_getElem?_getD, List.getD_eq_getElem?_getD]
  by_cases e : k = l.length
  · rw [if_pos e, List.getElem?_append_right (by omega), show k.toNat - l.length = 0 by omega]; rfl
  · rw [if_neg e, List.getElem?_append_left (by omega)]
/-- How many points below i stay. -/
def stays (a b i : Int) : Int := i - (if a < i then 1 else 0) - (if b < i then 1 else 0)
theorem specPut_l1 (l : List Int) (hl : l.length ≤ 10) (hs : ∀ j : Int, 0 ≤ j → j < l.length → 0 ≤ rd l j ∧ rd l j < (l.length : Nat)) (a b : Int) (ha : 0 ≤ a) (P : List Int) (hP : P.length = l.length) (hr : ∀ k : Int, 0 ≤ k → k < l.length → rd P k = place a b k) (d : Nat) : ∀ (out : List Int) (k : Int), 0 ≤ k → (l.length : Int) = k + d → out.length = l.length + 2 →
    (∃ K, ∀ n, K ≤ n → spec_PutArch.l1 n P out l l.length k = some (putE (putF l a b d out k))) := by
  induction d with
  | zero =>
    intro out k h0 hd ho
    obtain ⟨K, h⟩ := ahGood_any out (by omega)
    refine ev_rs K fun m hm => ?_
    have e : sysB out = tf (Pl.Sys out.length (rd out)) := tf_c ⟨fun h => h.2, fun h => ⟨by omega, h⟩⟩
    rw [e] at h
    simp (disch := omega) only [spec_PutArch.l1, if_neg, h, Option.bind_some]
    exact putE_eq out
  | succ d ih =>
    intro out k h0 hd ho
    obtain ⟨s0, s1⟩ := hs k h0 (by omega)
    obtain ⟨p0, p1⟩ := place_in a b k l.length h0 (by omega) ha
    have r1 := hr k h0 (by omega)
    have r2 := hr (rd l k) s0 (by omega)
    obtain ⟨K, ih⟩ := ih (out.set (place a b k).toNat (place a b (rd l k))) (k + 1) (by omega) (by omega) (by simpa using ho)
    refine ev_rs K fun m hm => ?_
    simp (disch := omega) only [spec_PutArch.l1, if_pos, r1, r2, w64, putF]
    exact ih m hm
theorem specPut_l0 (l : List Int) (hl : l.length ≤ 10) (hs : ∀ j : Int, 0 ≤ j → j < l.length → 0 ≤ rd l j ∧ rd l j < (l.length : Nat)) (a b : Int) (ha : 0 ≤ a) (hab : a < b) (hb : b ≤ (l.length : Int) + 1) (d : Nat) : ∀ (P : List Int) (i : Int), 0 ≤ i → (l.length : Int) + 2 = i + d → (P.length : Int) = stays a b i → (∀ k : Int, 0 ≤ k → k < P.length → rd P k = place a b k) →
    (∃ K, ∀ n, K ≤ n → spec_PutArch.l0 n l a b P i = some (putE (putL l a b))) := by
  induction d with
  | zero =>
    intro P i h0 hd hP hr
    have hP2 : P.length = l.length := by unfold stays at hP; split at hP <;> split at hP <;> omega
    obtain ⟨K, h⟩ := specPut_l1 l hl hs a b ha P hP2 (fun k h1 h2 => hr k h1 (by omega)) l.length (put0 l a b) 0 (by omega) (by omega) (by simp [put0])
    refine ev_rs K fun m hm => ?_
    have e : ((l.length : Int) + 2).toNat = l.length + 2 := by omega
    simp (disch := omega) only [spec_PutArch.l0, if_neg, w64, if_pos, e, Option.bind_some, List.length_replicate]
    exact h m hm
  | succ d ih =>
    intro P i h0 hd hP hr
    by_cases c1 : i = a
    · obtain ⟨K, ih⟩ := ih P (i + 1) (by omega) (by omega) (by rw [hP]; unfold stays; split <;> split <;> split <;> split <;> omega) hr
      refine ev_rs K fun m hm => ?_
      simp (disch := omega) only [spec_PutArch.l0, if_pos, w64]
      exact ih m hm
    · by_cases c2 : i = b
      · obtain ⟨K, ih⟩ := ih P (i + 1) (by omega) (by omega) (by rw [hP]; unfold stays; split <;> split <;> split <;> split <;> omega) hr
        refine ev_rs K fun m hm => ?_
        simp (disch := omega) only [spec_PutArch.l0, if_pos, if_neg, w64]
        exact ih m hm
      · have hc : i = place a b P.length ∧ (P.length : Int) + 1 = stays a b (i + 1) := by
          rw [hP]; unfold stays place
          refine ⟨?_, ?_⟩ <;> (repeat' split) <;> omega
        have hPl : P.length ≤ 100 := by have := hP; unfold stays at this; split at this <;> split at this <;> omega
        obtain ⟨K, ih⟩ := ih (P ++ [i]) (i + 1) (by omega) (by omega) (by rw [List.length_append]; simpa using hc.2) (fun k g0 g1 => by
          rw [rd_snoc P i k g0 (by simp at g1; omega)]
          by_cases e : k = P.length
          · rw [if_pos e, e]; exact hc.1
          · rw [if_neg e]; exact hr k g0 (by simp at g1; omega))
        refine ev_rs K fun m hm => ?_
        simp (disch := omega) only [spec_PutArch.l0, if_pos, if_neg, w64]
        exact ih m hm
theorem specPut_any (l : List Int) (a b : Int) (hn : l.length ≤ 1048576) : (∃ K, ∀ k, K ≤ k → spec_PutArch.f k l a b = some (putR l a b)) := by
  obtain ⟨K1, h1⟩ := ahGood_any l (by omega)
  by_cases hB : sysB l = true
  · rw [hB] at h1
    obtain ⟨hl, hs⟩ := sysB_rd hB
    have he := sysB_even hB
    by_cases h12 : (l.length : Int) = 12
    · refine ⟨K1 + 1, fun k hk => ?_⟩
      obtain ⟨m, rfl⟩ : ∃ m, k = m + 1 := ⟨k - 1, by omega⟩
      simp (disch := omega) only [spec_PutArch.f, h1, Option.bind_some, if_true, if_pos h12, spec_PutArch.j0]
      rw [putR, if_neg (fun h => h.2.1 h12)]
    · by_cases c1 : 1 ≤ b ∧ b ≤ (l.length : Int) + 1
      · by_cases c2 : 0 ≤ a ∧ a ≤ b - 1
        · obtain ⟨K2, h2⟩ := specPut_l0 l (by omega) hs a b c2.1 (by omega) c1.2 (l.length + 2) [] 0 (by omega) (by omega) (by unfold stays; rw [if_neg (by omega), if_neg (by omega)]; rfl) (fun k g0 g1 => absurd g1 (by simp; omega))
          refine ⟨K1 + K2 + 1, fun k hk => ?_⟩
          obtain ⟨m, rfl⟩ : ∃ m, k = m + 1 := ⟨k - 1, by omega⟩
          simp (disch := omega) only [spec_PutArch.f, h1, Option.bind_some, if_true, if_neg h12, l1In_any, decide_eq_true c1, w64, decide_eq_true c2, Bool.not_true, spec_PutArch.j0, Bool.false_eq_true, if_false, h2]
          rw [putR, if_pos ⟨hB, h12, c2.1, by omega, c1.2⟩]
        · refine ⟨K1 + 1, fun k hk => ?_⟩
          obtain ⟨m, rfl⟩ : ∃ m, k = m + 1 := ⟨k - 1, by omega⟩
          simp (disch := omega) only [spec_PutArch.f, h1, Option.bind_some, if_true, if_neg h12, l1In_any, decide_eq_true c1, w64, decide_eq_false c2, Bool.not_false, spec_PutArch.j0]
          rw [putR, if_neg (fun h => c2 ⟨h.2.2.1, by omega⟩)]
      · refine ⟨K1 + 1, fun k hk => ?_⟩
        obtain ⟨m, rfl⟩ : ∃ m, k = m + 1 := ⟨k - 1, by omega⟩
        simp (disch := omega) only [spec_PutArch.f, h1, Option.bind_some, if_true, if_neg h12, l1In_any, decide_eq_false c1, w64, Bool.false_eq_true, if_false, spec_PutArch.j0]
        rw [putR, if_neg (fun h => c1 ⟨by omega, h.2.2.2.2⟩)]
  · replace hB := Bool.eq_false_iff.2 hB
    rw [hB] at h1
    refine ⟨K1 + 1, fun k hk => ?_⟩
    obtain ⟨m, rfl⟩ : ∃ m, k = m + 1 := ⟨k - 1, by omega⟩
    simp (disch := omega) only [spec_PutArch.f, h1, Option.bind_some, Bool.false_eq_true, if_false, spec_PutArch.j0, if_true]
    rw [putR, if_neg (fun h => by rw [hB] at h; exact absurd h.1 (by decide))]

/-! ### impl.parseSystem, spec.ahParse: both read a text from left to right -/
/-- What both loops come to: none where a letter does not fit; else the list so far and the points that are open. -/
def pz : Nat → ByteArray → List Int → List Int → Int → Option (List Int × List Int)
  | 0, _, out, op, _ => some (out, op)
  | d + 1, s, out, op, i =>
    if bt s i = 40 then pz d s out (op ++ [i]) (i + 1)
    else if bt s i = 41 ∧ (op.length : Int) > 0 then
      pz d s ((out.set (rd op ((op.length : Int) - 1)).toNat i).set i.toNat (rd op ((op.length : Int) - 1))) (op.take (op.length - 1)) (i + 1)
    else none
/-- The open points lie ahead of a place. -/
def OpenOk (op : List Int) (i : Int) : Prop := (∀ x ∈ op, 0 ≤ x ∧ x < i) ∧ (op.length : Int) ≤ i
theorem OpenOk.push {op : List Int} {i : Int} (h : OpenOk op i) (h0 : 0 ≤ i) : OpenOk (op ++ [i]) (i + 1) := by
  refine ⟨fun x hx => ?_, by simp; exact h.2⟩
  rcases List.mem_append.1 hx with hx | hx
  · have := h.1 x hx; omega
  · have : x = i := by simpa using hx
    omega
theorem OpenOk.pop {op : List Int} {i : Int} (h : OpenOk op i) : OpenOk (op.take (op.length - 1)) (i + 1) := by
  refine ⟨fun x hx => ?_, by simp; have := h.2; omega⟩
  have := h.1 x (List.mem_of_mem_take hx); omega
theorem OpenOk.last {op : List Int} {i : Int} (h : OpenOk op i) (hl : (op.length : Int) > 0) : 0 ≤ rd op ((op.length : Int) - 1) ∧ rd op ((op.length : Int) - 1) < i :=
  h.1 _ (rd_mem op _ (by omega) (by omega))
def pzOut : Option (List Int × List Int) → List Int × Bool
  | none => ([], false)
  | some (o, op) => if op.length = 0 then (o, true) else ([], false)
def pzImpl : Option (List Int × List Int) → List Int × Bool
  | none => ([], false)
  | some (o, op) => (o, decide (op.length = 0))
theorem pz_length (s : ByteArray) (d : Nat) : ∀ (out op : List Int) (i : Int) o p, pz d s out op i = some (o, p) → o.length = out.length := by
  induction d with
  | zero => intro out op i o p h; simp [pz] at h; rw [h.1]
  | succ d ih =>
    intro out op i o p h
    unfold pz at h
    split at h
    · exact ih _ _ _ _ _ h
    · split at h
      · have := ih _ _ _ _ _ h
        simpa using this
      · cases h
theorem ahParse_l (s : ByteArray) (hs : s.size ≤ 1048576) (d : Nat) : ∀ (out op : List Int) (i : Int), 0 ≤ i → (s.size : Int) = i + d → out.length = s.size → OpenOk op i →
    (∃ K, ∀ k, K ≤ k → spec_ahParse.l0 k s out op i = some (pzOut (pz d s out op i))) := by
  induction d with
  | zero =>
    intro out op i h0 hd ho hop
    refine ev_rs 0 fun m _ => ?_
    simp (disch := omega) only [spec_ahParse.l0, if_neg, pz, pzOut]
    by_cases h : (op.length : Int) > 0
    · rw [if_pos h, if_neg (by omega)]
    · rw [if_neg h, if_pos (by omega)]
  | succ d ih =>
    intro out op i h0 hd ho hop
    have hol := hop.2
    by_cases h40 : bt s i = 40
    · obtain ⟨K, ih⟩ := ih out (op ++ [i]) (i + 1) (by omega) (by omega) ho (hop.push h0)
      refine ev_rs K fun m hm => ?_
      simp (disch := omega) only [spec_ahParse.l0, if_pos, if_neg, w64, pz]
      exact ih m hm
    · by_cases h41 : bt s i = 41 ∧ (op.length : Int) > 0
      · obtain ⟨g0, g1⟩ := hop.last h41.2
        obtain ⟨K, ih⟩ := ih ((out.set (rd op ((op.length : Int) - 1)).toNat i).set i.toNat (rd op ((op.length : Int) - 1))) (op.take (op.length - 1)) (i + 1) (by omega) (by omega) (by simpa using ho) hop.pop
        refine ev_rs K fun m hm => ?_
        have e : ((op.length : Int) - 1).toNat = op.length - 1 := by omega
        simp (disch := omega) only [spec_ahParse.l0, if_pos, if_neg, w64, pz]
        rw [e]
        exact ih m hm
      · refine ev_rs 0 fun m hm => ?_
        simp (disch := omega) only [spec_ahParse.l0, if_pos, if_neg, w64, pz, pzOut]
        simp
theorem ahParse_any (s : ByteArray) (hs : s.size ≤ 1048576) : (∃ K, ∀ k, K ≤ k → spec_ahParse.f k s = some (if (s.size : Int) > 12 then ([], false) else pzOut (pz s.size s (List.replicate s.size 0) [] 0))) := by
  obtain ⟨K, h⟩ := ahParse_l s hs s.size (List.replicate s.size 0) [] 0 (by omega) (by omega) (by simp) ⟨by simp, by simp⟩
  refine ⟨K, fun k hk => ?_⟩
  unfold spec_ahParse.f
  split
  · rfl
  · rw [if_pos (by omega), if_pos (by omega)]
    simpa using h k hk

/-- What both tell of a text. -/
def parsed (s : ByteArray) : List Int × Bool := if (s.size : Int) > 12 then ([], false) else pzOut (pz s.size s (List.replicate s.size 0) [] 0)
theorem parsed_length (s : ByteArray) : (parsed s).1.length ≤ 12 := by
  unfold parsed
  split
  · simp
  · cases h : pz s.size s (List.replicate s.size 0) [] 0 with
    | none => simp [pzOut]
    | some x =>
      have := pz_length _ _ _ _ _ _ _ h
      unfold pzOut
      simp only
      split
      · simp at this; simp; omega
      · simp

/-! ### laws.sSame of a list and itself -/
theorem sSame_l (a : List Int) (hn : a.length < 4611686018427387904) (d : Nat) : ∀ i : Int, 0 ≤ i → (a.length : Int) - i ≤ d → (∃ K, ∀ k, K ≤ k → laws_sSame.l0 k a a (a.length : Int) i = some (true)) := by
  induction d with
  | zero =>
    intro i h0 hd
    refine ev_rs 0 fun m _ => ?_
    simp (disch := omega) only [laws_sSame.l0, if_neg]
  | succ d ih =>
    intro i h0 hd
    by_cases hlt : i < (a.length : Int)
    · obtain ⟨K, ih⟩ := ih (i + 1) (by omega) (by omega)
      refine ev_rs K fun m hm => ?_
      simp (disch := omega) only [laws_sSame.l0, if_pos, w64, ih m hm, if_true]
    · refine ev_rs 0 fun m _ => ?_
      simp (disch := omega) only [laws_sSame.l0, if_neg]
theorem sSame_any (a : List Int) (hn : a.length ≤ 35184372088832) : (∃ K, ∀ k, K ≤ k → laws_sSame.f k a a = some (true)) := by
  obtain ⟨K, h⟩ := sSame_l a (by omega) a.length 0 (by omega) (by omega)
  refine ⟨K, fun k hk => ?_⟩
  unfold laws_sSame.f
  rw [if_pos rfl, h k hk]
theorem big_any (a b : List Int) (ha : a.length ≤ 1048576) (hb : (b.length : Int) ≤ 1048576 - a.length) : laws_big.f a b = some false := by
  unfold laws_big.f
  rw [if_neg (by omega), w64 (by omega) (by omega)]
  congr 1
  exact decide_eq_false (by omega)
theorem big_yes (a b : List Int) (h : ¬ (a.length ≤ 1048576 ∧ (b.length : Int) ≤ 1048576 - a.length)) : laws_big.f a b = some true := by
  unfold laws_big.f
  by_cases h1 : (a.length : Int) > 1048576
  · rw [if_pos h1]
  · rw [if_neg h1, w64 (by omega) (by omega)]
    congr 1
    exact decide_eq_true (by omega)

/-! ### spec's draws: what a cursor answers, by the lengths -/
theorem wrap_u64 (n : Int) : IntKind.u64.wrap n = n % 18446744073709551616 := by simp [IntKind.wrap, IntKind.bits, IntKind.signed]
theorem and255 (y : Int) : 0 ≤ Go.bits .and .u64 ((IntKind.u64.wrap y) / 1099511627776) 255 ∧ Go.bits .and .u64 ((IntKind.u64.wrap y) / 1099511627776) 255 < 256 := by
  rw [wrap_u64]
  have h := Go.bits_mask .u64 64 (by decide) (fun n h0 h1 => by rw [wrap_u64]; omega) 8 (by decide) (y % 18446744073709551616 / 1099511627776) (by omega) (by omega)
  rw [show (2 : Int) ^ 8 - 1 = 255 by decide, show (2 : Int) ^ 8 = 256 by decide] at h
  rw [h]; omega
/-- A row of bytes, not longer than the laws take. -/
def Bys (c : List Int) : Prop := c.length ≤ 1048576 ∧ ∀ x ∈ c, 0 ≤ x ∧ x < 256
theorem bys_of {c : List Int} (hl : c.length ≤ 1048576) (h : ∀ x ∈ c, (Lit.int .u8 x).wf = true) : Bys c := by
  refine ⟨hl, fun x hx => ?_⟩
  have := h x hx
  simp [Lit.wf, IntKind.min, IntKind.max, IntKind.bits, IntKind.signed] at this
  omega
theorem bindE {α β : Type} {x : Option α} {f : α → Option β} {a : α} {r : Option β} (h : x = some a) (h2 : f a = r) : x.bind f = r := by rw [h]; exact h2
theorem next_any {c : List Int} (hc : Bys c) (a s : Int) (h0 : 0 ≤ a) (h1 : a ≤ 4000000000000000000) : ∃ r s', spec_l1Cur_next.f c a s = some (r, a + 1, s') ∧ 0 ≤ r ∧ r < 256 := by
  have hl := hc.1
  unfold spec_l1Cur_next.f
  rw [w64 (x := a + 1) (by omega) (by omega)]
  by_cases h : a < (c.length : Int)
  · have hm := hc.2 _ (rd_mem c a h0 h)
    rw [if_pos h, if_pos h0, if_pos (by omega), w64 (x := rd c a) (by omega) (by omega)]
    exact ⟨_, _, rfl, hm.1, hm.2⟩
  · rw [if_neg h, if_neg (by omega)]
    refine ⟨_, _, rfl, ?_⟩
    have hb := and255 (IntKind.u64.wrap (IntKind.u64.wrap (s * 6364136223846793005)) + 1442695040888963407)
    rw [w64 (by omega) (by omega)]
    exact hb
theorem pick_any {c : List Int} (hc : Bys c) (a s n : Int) (h0 : 0 ≤ a) (h1 : a ≤ 4000000000000000000) (hn : 1 ≤ n) (hn2 : n ≤ 200) :
    ∃ r a' s', spec_l1Cur_pick.f c a s n = some (r, a', s') ∧ 0 ≤ r ∧ r < n ∧ a ≤ a' ∧ a' ≤ a + 1 := by
  unfold spec_l1Cur_pick.f
  by_cases h : n ≤ 1
  · rw [if_pos h]; exact ⟨0, a, s, rfl, by omega, by omega, by omega, by omega⟩
  · obtain ⟨r, s', e, hr0, hr1⟩ := next_any hc a s h0 h1
    rw [if_neg h, e, Option.bind_some, if_neg (by omega), if_neg (by omega)]
    refine ⟨Int.tmod r n, a + 1, s', rfl, ?_, ?_, by omega, by omega⟩
    · exact Int.tmod_nonneg _ hr0
    · exact Int.tmod_lt_of_pos _ (by omega)
theorem one_any {c : List Int} (hc : Bys c) (a s n : Int) (h0 : 0 ≤ a) (h1 : a ≤ 4000000000000000000) (hn : 1 ≤ n) (hn2 : n ≤ 200) :
    ∃ r a' s', spec_l1Cur_one.f c a s n = some (r, a', s') ∧ a ≤ a' ∧ a' ≤ a + 1 := by
  obtain ⟨r, a', s', e, _, _, h2, h3⟩ := pick_any hc a s n h0 h1 hn hn2
  unfold spec_l1Cur_one.f
  rw [e, Option.bind_some]
  exact ⟨_, _, _, rfl, h2, h3⟩
theorem size_push1 (t : ByteArray) (b : UInt8) : (t ++ (⟨#[b]⟩ : ByteArray)).size = t.size + 1 := by rw [ByteArray.size_append]; rfl
theorem sure_l {c : List Int} (hc : Bys c) (n : Int) (hn0 : 0 ≤ n) (hn : n ≤ 6) (d : Nat) : ∀ (t : ByteArray) (o lf i a s : Int), 0 ≤ i → i ≤ 2 * n → 2 * n - i ≤ d → (t.size : Int) = i → -i ≤ o → o ≤ i →
    0 ≤ lf → lf ≤ n → 0 ≤ a → a + (2 * n - i) ≤ 4000000000000000000 →
    ∃ p a' s', (∃ K, ∀ k, K ≤ k → spec_l1Cur_sure.l0 k n t o lf i c a s = some ((p, a', s'))) ∧ p.length ≤ 12 ∧ a ≤ a' ∧ a' ≤ a + (2 * n - i) := by
  have fin : ∀ (t : ByteArray) (o lf i a s : Int), i = 2 * n → (t.size : Int) = i → ∃ p a' s', (∃ K, ∀ k, K ≤ k → spec_l1Cur_sure.l0 k n t o lf i c a s = some ((p, a', s'))) ∧ p.length ≤ 12 ∧ a ≤ a' ∧ a' ≤ a + (2 * n - i) := by
    intro t o lf i a s hi ht
    obtain ⟨K, h⟩ := ahParse_any t (by omega)
    refine ⟨_, a, s, ev_rs K fun m hm => ?_, parsed_length t, by omega, by omega⟩
    rw [← parsed] at h
    simp (disch := omega) only [spec_l1Cur_sure.l0, if_neg, w64, h m hm, Option.bind_some]
  induction d with
  | zero => intro t o lf i a s hi0 hi hd ht ho1 ho2 hl0 hl1 ha hb; exact fin t o lf i a s (by omega) ht
  | succ d ih =>
    intro t o lf i a s hi0 hi hd ht ho1 ho2 hl0 hl1 ha hb
    by_cases hlt : i < 2 * n
    · by_cases hp : lf > 0
      · by_cases hz : o = 0
        · obtain ⟨p, a', s', ⟨K, h⟩, q1, q2, q3⟩ := ih (t ++ (⟨#[40]⟩ : ByteArray)) (o + 1) (lf - 1) (i + 1) a s (by omega) (by omega) (by omega) (by rw [size_push1]; omega) (by omega) (by omega) (by omega) (by omega) ha (by omega)
          refine ⟨p, a', s', ev_rs K fun m hm => ?_, q1, q2, by omega⟩
          simp (disch := omega) only [spec_l1Cur_sure.l0, if_pos, w64]
          exact h m hm
        · obtain ⟨b, a1, s1, e, q4, q5⟩ := one_any hc a s 2 ha (by omega) (by omega) (by omega)
          cases b with
          | true =>
            obtain ⟨p, a', s', ⟨K, h⟩, q1, q2, q3⟩ := ih (t ++ (⟨#[40]⟩ : ByteArray)) (o + 1) (lf - 1) (i + 1) a1 s1 (by omega) (by omega) (by omega) (by rw [size_push1]; omega) (by omega) (by omega) (by omega) (by omega) (by omega) (by omega)
            refine ⟨p, a', s', ev_rs K fun m hm => ?_, q1, by omega, by omega⟩
            simp (disch := omega) only [spec_l1Cur_sure.l0, if_pos, if_neg, w64, e, Option.bind_some]
            exact h m hm
          | false =>
            obtain ⟨p, a', s', ⟨K, h⟩, q1, q2, q3⟩ := ih (t ++ (⟨#[41]⟩ : ByteArray)) (o - 1) lf (i + 1) a1 s1 (by omega) (by omega) (by omega) (by rw [size_push1]; omega) (by omega) (by omega) (by omega) (by omega) (by omega) (by omega)
            refine ⟨p, a', s', ev_rs K fun m hm => ?_, q1, by omega, by omega⟩
            simp (disch := omega) only [spec_l1Cur_sure.l0, if_pos, if_neg, w64, e, Option.bind_some, Bool.false_eq_true, if_false]
            exact h m hm
      · obtain ⟨p, a', s', ⟨K, h⟩, q1, q2, q3⟩ := ih (t ++ (⟨#[41]⟩ : ByteArray)) (o - 1) lf (i + 1) a s (by omega) (by omega) (by omega) (by rw [size_push1]; omega) (by omega) (by omega) (by omega) (by omega) ha (by omega)
        refine ⟨p, a', s', ev_rs K fun m hm => ?_, q1, q2, by omega⟩
        simp (disch := omega) only [spec_l1Cur_sure.l0, if_pos, if_neg, w64]
        exact h m hm
    · exact fin t o lf i a s (by omega) ht
theorem sure_any {c : List Int} (hc : Bys c) (a s n : Int) (h0 : 0 ≤ a) (h1 : a ≤ 3000000000000000000) (hn0 : 0 ≤ n) (hn : n ≤ 6) :
    ∃ p a' s', (∃ K, ∀ k, K ≤ k → spec_l1Cur_sure.f k c a s n = some ((p, a', s'))) ∧ p.length ≤ 12 ∧ a ≤ a' ∧ a' ≤ a + 12 := by
  obtain ⟨p, a', s', h, q1, q2, q3⟩ := sure_l hc n hn0 hn (2 * n).toNat (⟨#[]⟩ : ByteArray) 0 n 0 a s (by omega) (by omega) (by omega) rfl (by omega) (by omega) hn0 (by omega) h0 (by omega)
  exact ⟨p, a', s', h, q1, q2, by omega⟩
theorem flat_draw : ((List.range 8).all fun n => match spec_ahFlat.f 60 (n : Nat) with | some l => decide (l.length ≤ 14) | none => false) = true := by decide +kernel
theorem rainbow_draw : ((List.range 8).all fun n => match spec_ahRainbow.f 60 (n : Nat) with | some l => decide (l.length ≤ 14) | none => false) = true := by decide +kernel
theorem flat_d (n : Int) (h0 : 0 ≤ n) (h : n < 8) : ∃ l, (∃ K, ∀ k, K ≤ k → spec_ahFlat.f k n = some (l)) ∧ l.length ≤ 14 := by
  have q := List.all_eq_true.1 flat_draw n.toNat (List.mem_range.2 (by omega))
  rw [show ((n.toNat : Nat) : Int) = n by omega] at q
  cases e : spec_ahFlat.f 60 n with
  | none => rw [e] at q; cases q
  | some l => rw [e] at q; exact ⟨l, ⟨60, fun k hk => at_rounds (fun k => spec_ahFlat.mono n k) hk e⟩, of_decide_eq_true q⟩
theorem rainbow_d (n : Int) (h0 : 0 ≤ n) (h : n < 8) : ∃ l, (∃ K, ∀ k, K ≤ k → spec_ahRainbow.f k n = some (l)) ∧ l.length ≤ 14 := by
  have q := List.all_eq_true.1 rainbow_draw n.toNat (List.mem_range.2 (by omega))
  rw [show ((n.toNat : Nat) : Int) = n by omega] at q
  cases e : spec_ahRainbow.f 60 n with
  | none => rw [e] at q; cases q
  | some l => rw [e] at q; exact ⟨l, ⟨60, fun k hk => at_rounds (fun k => spec_ahRainbow.mono n k) hk e⟩, of_decide_eq_true q⟩
theorem system_any {c : List Int} (hc : Bys c) (a s n : Int) (h0 : 0 ≤ a) (h1 : a ≤ 2000000000000000000) (hn0 : 0 ≤ n) (hn : n ≤ 6) :
    ∃ p a' s', (∃ K, ∀ k, K ≤ k → spec_l1Cur_system.f k c a s n = some ((p, a', s'))) ∧ p.length ≤ 14 ∧ a ≤ a' ∧ a' ≤ a + 20 := by
  obtain ⟨r1, a1, s1, e1, q1, q2, q3, q4⟩ := pick_any hc a s (n + 1) h0 (by omega) (by omega) (by omega)
  obtain ⟨p, a2, s2, ⟨K2, e2⟩, q5, q6, q7⟩ := sure_any hc a1 s1 r1 (by omega) (by omega) q1 (by omega)
  obtain ⟨r3, a3, s3, e3, q8, q9, q10, q11⟩ := pick_any hc a2 s2 16 (by omega) (by omega) (by omega) (by omega)
  have w1 : wrap64 (n + 1) = n + 1 := w64 (by omega) (by omega)
  by_cases c0 : r3 = 0
  · by_cases hp : (p.length : Int) > 0
    · obtain ⟨r4, a4, s4, e4, q12, q13, q14, q15⟩ := pick_any hc a3 s3 (p.length : Int) (by omega) (by omega) (by omega) (by omega)
      obtain ⟨r5, a5, s5, e5, q16, q17, q18, q19⟩ := pick_any hc a4 s4 ((p.length : Int) + 2) (by omega) (by omega) (by omega) (by omega)
      refine ⟨p.set r4.toNat (r5 - 1), a5, s5, ⟨K2, fun k hk => ?_⟩, by simp; omega, by omega, by omega⟩
      unfold spec_l1Cur_system.f
      rw [w1]
      refine bindE e1 ?_
      dsimp only
      refine bindE (e2 k (by omega)) ?_
      dsimp only
      refine bindE e3 ?_
      dsimp only
      rw [if_pos c0, if_pos hp]
      refine bindE e4 ?_
      dsimp only
      rw [w64 (x := (p.length : Int) + 2) (by omega) (by omega)]
      refine bindE e5 ?_
      dsimp only
      rw [if_pos q12, if_pos q13, w64 (by omega) (by omega)]
    · refine ⟨p, a3, s3, ⟨K2, fun k hk => ?_⟩, by omega, by omega, by omega⟩
      unfold spec_l1Cur_system.f
      rw [w1]
      refine bindE e1 ?_
      dsimp only
      refine bindE (e2 k (by omega)) ?_
      dsimp only
      refine bindE e3 ?_
      dsimp only
      rw [if_pos c0, if_neg hp]
  · by_cases c1 : r3 = 1
    · refine ⟨p ++ [(p.length : Int) + 1], a3, s3, ⟨K2, fun k hk => ?_⟩, by simp; omega, by omega, by omega⟩
      unfold spec_l1Cur_system.f
      rw [w1]
      refine bindE e1 ?_
      dsimp only
      refine bindE (e2 k (by omega)) ?_
      dsimp only
      refine bindE e3 ?_
      dsimp only
      rw [if_neg c0, if_pos c1, if_pos (by omega), w64 (by omega) (by omega)]
    · by_cases c2 : r3 = 2
      · obtain ⟨r4, a4, s4, e4, q12, q13, q14, q15⟩ := pick_any hc a3 s3 2 (by omega) (by omega) (by omega) (by omega)
        obtain ⟨l, ⟨K3, e5⟩, q16⟩ := flat_d (6 + r4) (by omega) (by omega)
        refine ⟨l, a4, s4, ⟨K2 + K3, fun k hk => ?_⟩, q16, by omega, by omega⟩
        unfold spec_l1Cur_system.f
        rw [w1]
        refine bindE e1 ?_
        dsimp only
        refine bindE (e2 k (by omega)) ?_
        dsimp only
        refine bindE e3 ?_
        dsimp only
        rw [if_neg c0, if_neg c1, if_pos c2]
        refine bindE e4 ?_
        dsimp only
        rw [w64 (x := 6 + r4) (by omega) (by omega)]
        exact bindE (e5 k (by omega)) rfl
      · by_cases c3 : r3 = 3
        · obtain ⟨r4, a4, s4, e4, q12, q13, q14, q15⟩ := pick_any hc a3 s3 7 (by omega) (by omega) (by omega) (by omega)
          obtain ⟨l, ⟨K3, e5⟩, q16⟩ := rainbow_d r4 (by omega) (by omega)
          refine ⟨l, a4, s4, ⟨K2 + K3, fun k hk => ?_⟩, q16, by omega, by omega⟩
          unfold spec_l1Cur_system.f
          rw [w1]
          refine bindE e1 ?_
          dsimp only
          refine bindE (e2 k (by omega)) ?_
          dsimp only
          refine bindE e3 ?_
          dsimp only
          rw [if_neg c0, if_neg c1, if_neg c2, if_pos c3]
          refine bindE e4 ?_
          dsimp only
          exact bindE (e5 k (by omega)) rfl
        · refine ⟨p, a3, s3, ⟨K2, fun k hk => ?_⟩, by omega, by omega, by omega⟩
          unfold spec_l1Cur_system.f
          rw [w1]
          refine bindE e1 ?_
          dsimp only
          refine bindE (e2 k (by omega)) ?_
          dsimp only
          refine bindE e3 ?_
          dsimp only
          rw [if_neg c0, if_neg c1, if_neg c2, if_neg c3]

theorem among_any {c : List Int} (hc : Bys c) (a s : Int) (l : List Int) (h0 : 0 ≤ a) (h1 : a ≤ 4000000000000000000) (hn : 1 ≤ l.length) (hn2 : l.length ≤ 200) :
    ∃ r a' s', spec_l1Cur_among.f c a s l = some (r, a', s') ∧ r ∈ l ∧ a ≤ a' ∧ a' ≤ a + 1 := by
  obtain ⟨r, a', s', e, q1, q2, q3, q4⟩ := pick_any hc a s (l.length : Int) h0 h1 (by omega) (by omega)
  unfold spec_l1Cur_among.f
  rw [e, Option.bind_some, if_pos q1, if_pos q2]
  exact ⟨_, _, _, rfl, rd_mem l r q1 q2, q3, q4⟩

theorem drawDrop_any {c : List Int} (hc : Bys c) : ∃ p i, (∃ K, ∀ k, K ≤ k → spec_DrawDropArch.f k c = some ((p, i))) ∧ p.length ≤ 14 := by
  obtain ⟨p, a1, s1, ⟨K1, e1⟩, q1, q2, q3⟩ := system_any hc 0 0 6 (by omega) (by omega) (by omega) (by omega)
  obtain ⟨r, a2, s2, e2, q4, q5, q6, q7⟩ := pick_any hc a1 s1 ((p.length : Int) + 2) (by omega) (by omega) (by omega) (by omega)
  refine ⟨p, r - 1, ⟨K1, fun k hk => ?_⟩, q1⟩
  unfold spec_DrawDropArch.f spec_DrawDropArch_m.f
  refine bindE (a := (p, r - 1, a2, s2)) (bindE (e1 k hk) ?_) rfl
  dsimp only
  rw [w64 (x := (p.length : Int) + 2) (by omega) (by omega)]
  refine bindE e2 ?_
  dsimp only
  rw [w64 (by omega) (by omega)]
theorem drawPut_any {c : List Int} (hc : Bys c) : ∃ p i j, (∃ K, ∀ k, K ≤ k → spec_DrawPutArch.f k c = some ((p, i, j))) ∧ p.length ≤ 14 := by
  obtain ⟨p, a1, s1, ⟨K1, e1⟩, q1, q2, q3⟩ := system_any hc 0 0 5 (by omega) (by omega) (by omega) (by omega)
  obtain ⟨r2, a2, s2, e2, q4, q5, q6, q7⟩ := pick_any hc a1 s1 ((p.length : Int) + 2) (by omega) (by omega) (by omega) (by omega)
  obtain ⟨r3, a3, s3, e3, q8, q9, q10, q11⟩ := pick_any hc a2 s2 3 (by omega) (by omega) (by omega) (by omega)
  obtain ⟨r4, a4, s4, e4, q12, q13, q14, q15⟩ := pick_any hc a3 s3 12 (by omega) (by omega) (by omega) (by omega)
  have w1 : wrap64 ((p.length : Int) + 2) = (p.length : Int) + 2 := w64 (by omega) (by omega)
  have w2 : wrap64 ((p.length : Int) + 1) = (p.length : Int) + 1 := w64 (by omega) (by omega)
  by_cases c0 : r4 = 0
  · obtain ⟨r5, a5, s5, e5, _⟩ := among_any hc a4 s4 ([(-1), (p.length : Int), 4611686018427387904] : List Int) (by omega) (by omega) (by simp) (by simp)
    refine ⟨p, r5, wrap64 ((wrap64 (r2 + 1)) + (wrap64 (2 * r3))), ⟨K1, fun k hk => ?_⟩, q1⟩
    unfold spec_DrawPutArch.f spec_DrawPutArch_m.f
    refine bindE (a := (p, r5, wrap64 ((wrap64 (r2 + 1)) + (wrap64 (2 * r3))), a5, s5)) (bindE (e1 k hk) ?_) rfl
    dsimp only
    rw [w1]
    refine bindE e2 ?_
    dsimp only
    refine bindE e3 ?_
    dsimp only
    refine bindE e4 ?_
    dsimp only
    rw [if_pos c0]
    exact bindE e5 rfl
  · by_cases c1 : r4 = 1
    · obtain ⟨r5, a5, s5, e5, _⟩ := among_any hc a4 s4 ([(-9223372036854775808), (-1), 0, (p.length : Int) + 1, (p.length : Int) + 2] : List Int) (by omega) (by omega) (by simp) (by simp)
      refine ⟨p, r2, r5, ⟨K1, fun k hk => ?_⟩, q1⟩
      unfold spec_DrawPutArch.f spec_DrawPutArch_m.f
      refine bindE (a := (p, r2, r5, a5, s5)) (bindE (e1 k hk) ?_) rfl
      dsimp only
      rw [w1]
      refine bindE e2 ?_
      dsimp only
      refine bindE e3 ?_
      dsimp only
      refine bindE e4 ?_
      dsimp only
      rw [if_neg c0, if_pos c1, w2]
      exact bindE e5 rfl
    · refine ⟨p, r2, wrap64 ((wrap64 (r2 + 1)) + (wrap64 (2 * r3))), ⟨K1, fun k hk => ?_⟩, q1⟩
      unfold spec_DrawPutArch.f spec_DrawPutArch_m.f
      refine bindE (a := (p, r2, wrap64 ((wrap64 (r2 + 1)) + (wrap64 (2 * r3))), a4, s4)) (bindE (e1 k hk) ?_) rfl
      dsimp only
      rw [w1]
      refine bindE e2 ?_
      dsimp only
      refine bindE e3 ?_
      dsimp only
      refine bindE e4 ?_
      dsimp only
      rw [if_neg c0, if_neg c1]
theorem drawIs_any {c : List Int} (hc : Bys c) : ∃ p, (∃ K, ∀ k, K ≤ k → spec_DrawIsSystem.f k c = some (p)) ∧ p.length ≤ 14 := by
  obtain ⟨p, a1, s1, ⟨K1, e1⟩, q1, q2, q3⟩ := system_any hc 0 0 6 (by omega) (by omega) (by omega) (by omega)
  refine ⟨p, ⟨K1, fun k hk => ?_⟩, q1⟩
  unfold spec_DrawIsSystem.f spec_DrawIsSystem_m.f
  exact bindE (bindE (e1 k hk) rfl) rfl
theorem drawDepths_any {c : List Int} (hc : Bys c) : ∃ p, (∃ K, ∀ k, K ≤ k → spec_DrawDepthsOf.f k c = some (p)) ∧ p.length ≤ 14 := by
  obtain ⟨p, ⟨K1, e1⟩, q1⟩ := drawIs_any hc
  exact ⟨p, ⟨K1, fun k hk => by unfold spec_DrawDepthsOf.f; exact bindE (e1 k hk) rfl⟩, q1⟩

/-! ### what is dropped is put back; what is put in is dropped -/
def back_table_P : List Int → Bool := fun p => (List.range p.length).all fun i =>
    decide (rd p (i : Nat) < (i : Nat)) || (impl_PutArch.f 200 (dropL p (i : Nat)) (i : Nat) (rd p (i : Nat)) == some (p, true))
theorem back_table_4 : ((List.range 5).all fun n => (Pl.sysList n).all back_table_P) = true := by decide +kernel
theorem back_table_5_0 : (((Pl.sysList 5).drop (14 * 0)).take 14).all back_table_P = true := by decide +kernel
theorem back_table_5_1 : (((Pl.sysList 5).drop (14 * 1)).take 14).all back_table_P = true := by decide +kernel
theorem back_table_5_2 : (((Pl.sysList 5).drop (14 * 2)).take 14).all back_table_P = true := by decide +kernel
theorem back_table_6_0 : (((Pl.sysList 6).drop (22 * 0)).take 22).all back_table_P = true := by decide +kernel
theorem back_table_6_1 : (((Pl.sysList 6).drop (22 * 1)).take 22).all back_table_P = true := by decide +kernel
theorem back_table_6_2 : (((Pl.sysList 6).drop (22 * 2)).take 22).all back_table_P = true := by decide +kernel
theorem back_table_6_3 : (((Pl.sysList 6).drop (22 * 3)).take 22).all back_table_P = true := by decide +kernel
theorem back_table_6_4 : (((Pl.sysList 6).drop (22 * 4)).take 22).all back_table_P = true := by decide +kernel
theorem back_table_6_5 : (((Pl.sysList 6).drop (22 * 5)).take 22).all back_table_P = true := by decide +kernel
theorem back_table : ((List.range 7).all fun n => (Pl.sysList n).all back_table_P) = true := by
  refine tab_of back_table_4 (fun i hi => ?_) (fun i hi => ?_)
  · match i, hi with
    | 0, _ => exact back_table_5_0
    | 1, _ => exact back_table_5_1
    | 2, _ => exact back_table_5_2
  · match i, hi with
    | 0, _ => exact back_table_6_0
    | 1, _ => exact back_table_6_1
    | 2, _ => exact back_table_6_2
    | 3, _ => exact back_table_6_3
    | 4, _ => exact back_table_6_4
    | 5, _ => exact back_table_6_5
theorem back_any {l : List Int} (hl : sysB l = true) {i : Int} (h0 : 0 ≤ i) (h1 : i < l.length) (h2 : ¬ rd l i < i) : (∃ K, ∀ k, K ≤ k → impl_PutArch.f k (dropL l i) i (rd l i) = some ((l, true))) := by
  have h := of_table back_table hl
  unfold back_table_P at h
  have h := List.all_eq_true.1 h i.toNat (List.mem_range.2 (by omega))
  rw [show ((i.toNat : Nat) : Int) = i by omega] at h
  rw [Bool.or_eq_true] at h
  rcases h with h | h
  · exact absurd (of_decide_eq_true h) h2
  · exact ⟨200, fun k hk => at_rounds (fun k => impl_PutArch.mono _ _ _ k) hk (beq_iff_eq.1 h)⟩
def putBack (q : List Int) (a b : Int) : Bool := match impl_PutArch.f 200 q a b with
  | some (put, true) => (impl_DropArch.f 200 put a == some (q, true)) && (rd put a == b) && decide (a < put.length)
  | some (_, false) => true
  | none => false
def putBack_table_P : List Int → Bool := fun p => decide (p.length = 12) || ((List.range (p.length + 2)).all fun b => (List.range b).all fun a => putBack p (a : Nat) (b : Nat))
theorem putBack_table_4 : ((List.range 5).all fun n => (Pl.sysList n).all putBack_table_P) = true := by decide +kernel
theorem putBack_table_5_0 : (((Pl.sysList 5).drop (14 * 0)).take 14).all putBack_table_P = true := by decide +kernel
theorem putBack_table_5_1 : (((Pl.sysList 5).drop (14 * 1)).take 14).all putBack_table_P = true := by decide +kernel
theorem putBack_table_5_2 : (((Pl.sysList 5).drop (14 * 2)).take 14).all putBack_table_P = true := by decide +kernel
theorem putBack_table_6_0 : (((Pl.sysList 6).drop (22 * 0)).take 22).all putBack_table_P = true := by decide +kernel
theorem putBack_table_6_1 : (((Pl.sysList 6).drop (22 * 1)).take 22).all putBack_table_P = true := by decide +kernel
theorem putBack_table_6_2 : (((Pl.sysList 6).drop (22 * 2)).take 22).all putBack_table_P = true := by decide +kernel
theorem putBack_table_6_3 : (((Pl.sysList 6).drop (22 * 3)).take 22).all putBack_table_P = true := by decide +kernel
theorem putBack_table_6_4 : (((Pl.sysList 6).drop (22 * 4)).take 22).all putBack_table_P = true := by decide +kernel
theorem putBack_table_6_5 : (((Pl.sysList 6).drop (22 * 5)).take 22).all putBack_table_P = true := by decide +kernel
theorem putBack_table : ((List.range 7).all fun n => (Pl.sysList n).all putBack_table_P) = true := by
  refine tab_of putBack_table_4 (fun i hi => ?_) (fun i hi => ?_)
  · match i, hi with
    | 0, _ => exact putBack_table_5_0
    | 1, _ => exact putBack_table_5_1
    | 2, _ => exact putBack_table_5_2
  · match i, hi with
    | 0, _ => exact putBack_table_6_0
    | 1, _ => exact putBack_table_6_1
    | 2, _ => exact putBack_table_6_2
    | 3, _ => exact putBack_table_6_3
    | 4, _ => exact putBack_table_6_4
    | 5, _ => exact putBack_table_6_5
theorem putBack_any {l : List Int} {a b : Int} {r : List Int} (h : putR l a b = (r, true)) (hn : l.length ≤ 1048576) : (∃ K, ∀ k, K ≤ k → impl_DropArch.f k r a = some ((l, true))) ∧ rd r a = b ∧ 0 ≤ a ∧ a < r.length := by
  obtain ⟨K, hp⟩ := implPut_any l a b hn
  rw [h] at hp
  unfold putR at h
  split at h
  · rename_i c
    have t := of_table putBack_table c.1
    unfold putBack_table_P at t
    have c12 : ¬ l.length = 12 := fun e => c.2.1 (by omega)
    rw [decide_eq_false c12, Bool.false_or] at t
    have t := List.all_eq_true.1 t b.toNat (List.mem_range.2 (by omega))
    have t := List.all_eq_true.1 t a.toNat (List.mem_range.2 (by omega))
    rw [show ((a.toNat : Nat) : Int) = a by omega, show ((b.toNat : Nat) : Int) = b by omega] at t
    have hp1 := hp (K + 200) (by omega)
    unfold putBack at t
    split at t
    · rename_i put e
      have e1 := at_rounds (fun k => impl_PutArch.mono l a b k) (show 200 ≤ K + 200 by omega) e
      rw [hp1] at e1
      cases e1
      simp only [Bool.and_eq_true, beq_iff_eq, decide_eq_true_eq] at t
      exact ⟨⟨200, fun k hk => at_rounds (fun k => impl_DropArch.mono _ _ k) hk t.1.1⟩, t.1.2, c.2.2.1, t.2⟩
    · rename_i put e
      have e1 := at_rounds (fun k => impl_PutArch.mono l a b k) (show 200 ≤ K + 200 by omega) e
      rw [hp1] at e1
      cases e1
    · cases t
  · cases h
/-- What the law asks of the third draw. -/
def part3 (k : Nat) (t392 : List Int) : Option Bool := (impl_DepthsOf.f k t392).bind fun bt395 => ((spec_DepthsOf.f k t392).bind fun bt399 => ((impl_OuterArches.f k t392).bind fun bt403 => ((spec_OuterArches.f k t392).bind fun bt407 => ((impl_SmallArches.f k t392).bind fun bt411 => ((spec_SmallArches.f k t392).bind fun bt415 => (if (bt395.2 != bt399.2) = true then (laws_FnArchesPut.j4 k t392 bt395.1 bt395.2 bt403.1 bt411.1 true) else ((laws_sSame.f k bt395.1 bt399.1).bind fun t419 => (if t419 = true then (if (bt403.2 != bt407.2) = true then (laws_FnArchesPut.j4 k t392 bt395.1 bt395.2 bt403.1 bt411.1 true) else ((laws_sSame.f k bt403.1 bt407.1).bind fun t420 => (if t420 = true then (if (bt411.2 != bt415.2) = true then (laws_FnArchesPut.j4 k t392 bt395.1 bt395.2 bt403.1 bt411.1 true) else ((laws_sSame.f k bt411.1 bt415.1).bind fun t421 => (if t421 = true then ((impl_IsSystem.f k t392).bind fun t422 => (if (bt395.2 != t422) = true then (laws_FnArchesPut.j4 k t392 bt395.1 bt395.2 bt403.1 bt411.1 true) else (if (bt403.2 != bt395.2) = true then (laws_FnArchesPut.j4 k t392 bt395.1 bt395.2 bt403.1 bt411.1 true) else (laws_FnArchesPut.j4 k t392 bt395.1 bt395.2 bt403.1 bt411.1 (bt411.2 != bt395.2))))) else (laws_FnArchesPut.j4 k t392 bt395.1 bt395.2 bt403.1 bt411.1 true)))) else (laws_FnArchesPut.j4 k t392 bt395.1 bt395.2 bt403.1 bt411.1 true)))) else (laws_FnArchesPut.j4 k t392 bt395.1 bt395.2 bt403.1 bt411.1 true)))))))))
def part3_table_P : List Int → Bool := fun p => part3 400 p == some true
theorem part3_table_4 : ((List.range 5).all fun n => (Pl.sysList n).all part3_table_P) = true := by decide +kernel
theorem part3_table_5_0 : (((Pl.sysList 5).drop (14 * 0)).take 14).all part3_table_P = true := by decide +kernel
theorem part3_table_5_1 : (((Pl.sysList 5).drop (14 * 1)).take 14).all part3_table_P = true := by decide +kernel
theorem part3_table_5_2 : (((Pl.sysList 5).drop (14 * 2)).take 14).all part3_table_P = true := by decide +kernel
theorem part3_table_6_0 : (((Pl.sysList 6).drop (22 * 0)).take 22).all part3_table_P = true := by decide +kernel
theorem part3_table_6_1 : (((Pl.sysList 6).drop (22 * 1)).take 22).all part3_table_P = true := by decide +kernel
theorem part3_table_6_2 : (((Pl.sysList 6).drop (22 * 2)).take 22).all part3_table_P = true := by decide +kernel
theorem part3_table_6_3 : (((Pl.sysList 6).drop (22 * 3)).take 22).all part3_table_P = true := by decide +kernel
theorem part3_table_6_4 : (((Pl.sysList 6).drop (22 * 4)).take 22).all part3_table_P = true := by decide +kernel
theorem part3_table_6_5 : (((Pl.sysList 6).drop (22 * 5)).take 22).all part3_table_P = true := by decide +kernel
theorem part3_table : ((List.range 7).all fun n => (Pl.sysList n).all part3_table_P) = true := by
  refine tab_of part3_table_4 (fun i hi => ?_) (fun i hi => ?_)
  · match i, hi with
    | 0, _ => exact part3_table_5_0
    | 1, _ => exact part3_table_5_1
    | 2, _ => exact part3_table_5_2
  · match i, hi with
    | 0, _ => exact part3_table_6_0
    | 1, _ => exact part3_table_6_1
    | 2, _ => exact part3_table_6_2
    | 3, _ => exact part3_table_6_3
    | 4, _ => exact part3_table_6_4
    | 5, _ => exact part3_table_6_5
theorem part3_mono (s : List Int) : ∀ k, LeO (part3 k s) (part3 (k + 1) s) := by
  intro k
  obtain ⟨_, _, _, _, ih4, _⟩ := laws_FnArchesPut.mono_l k
  unfold part3
  repeat' first
      | (with_reducible exact ih4 _ _ _ _ _ _)
      | (with_reducible exact impl_DepthsOf.mono _ _)
      | (with_reducible exact impl_IsSystem.mono _ _)
      | (with_reducible exact impl_OuterArches.mono _ _)
      | (with_reducible exact impl_SmallArches.mono _ _)
      | (with_reducible exact laws_sSame.mono _ _ _)
      | (with_reducible exact spec_DepthsOf.mono _ _)
      | (with_reducible exact spec_OuterArches.mono _ _)
      | (with_reducible exact spec_SmallArches.mono _ _)
      | (with_reducible exact LeO.refl _)
      | (with_reducible refine LeO.ite ?_ ?_)
      | (with_reducible refine LeO.bind ?_ (fun _ => ?_))
theorem j3_any {c : List Int} (hc : Bys c) : (∃ K, ∀ k, K ≤ k → laws_FnArchesPut.j3 k c = some (true)) := by
  obtain ⟨s, ⟨K, h⟩, hs⟩ := drawDepths_any hc
  cases hB : sysB s with
  | true =>
    have ht := beq_iff_eq.1 (of_table (P := fun p => part3 400 p == some true) part3_table hB)
    refine ev_rs (K + 400) fun m hm => ?_
    have e : laws_FnArchesPut.j3 (m + 1) c = (spec_DrawDepthsOf.f m c).bind (part3 m) := rfl
    rw [e, h m (by omega), Option.bind_some]
    exact at_rounds (fun k => part3_mono s k) (show 400 ≤ m by omega) ht
  | false =>
    obtain ⟨K2, h2⟩ := IsSystem_any s (by omega)
    obtain ⟨K3, h3⟩ := ahGood_any s (by omega)
    obtain ⟨K4, h4⟩ := sSame_any ([] : List Int) (by simp)
    rw [hB] at h2 h3
    have a1 : ∀ k, K3 ≤ k → spec_DepthsOf.f k s = some ([], false) := fun k hk => by simp [spec_DepthsOf.f, h3 k hk]
    have a2 : ∀ k, K2 ≤ k → impl_DepthsOf.f k s = some ([], false) := fun k hk => by simp [impl_DepthsOf.f, h2 k hk]
    have a3 : ∀ k, K3 ≤ k → spec_OuterArches.f k s = some ([], false) := fun k hk => by simp [spec_OuterArches.f, h3 k hk]
    have a4 : ∀ k, K2 ≤ k → impl_OuterArches.f k s = some ([], false) := fun k hk => by simp [impl_OuterArches.f, h2 k hk]
    have a5 : ∀ k, K3 ≤ k → spec_SmallArches.f k s = some ([], false) := fun k hk => by simp [spec_SmallArches.f, h3 k hk]
    have a6 : ∀ k, K2 ≤ k → impl_SmallArches.f k s = some ([], false) := fun k hk => by simp [impl_SmallArches.f, h2 k hk]
    refine ⟨K + K2 + K3 + K4 + 2, fun k hk => ?_⟩
    obtain ⟨m, rfl⟩ : ∃ m, k = m + 2 := ⟨k - 2, by omega⟩
    have e : laws_FnArchesPut.j3 (m + 2) c = (spec_DrawDepthsOf.f (m + 1) c).bind (part3 (m + 1)) := rfl
    have e4 : ∀ l o s2, laws_FnArchesPut.j4 (m + 1) s l false o s2 false = some true := fun _ _ _ => by
      rw [laws_FnArchesPut.j4, if_neg (by decide), if_neg (by decide)]
    rw [e, h _ (by omega), Option.bind_some]
    unfold part3
    rw [a2 _ (by omega), Option.bind_some, a1 _ (by omega), Option.bind_some, a4 _ (by omega), Option.bind_some, a3 _ (by omega), Option.bind_some, a6 _ (by omega), Option.bind_some, a5 _ (by omega), Option.bind_some]
    dsimp only
    rw [h4 _ (by omega), h2 _ (by omega)]
    simp only [Option.bind_some, bne_self_eq_false, Bool.false_eq_true, if_false, if_true, e4]
theorem j1_any {c : List Int} (hc : Bys c) : (∃ K, ∀ k, K ≤ k → laws_FnArchesPut.j1 k c = some (true)) := by
  obtain ⟨q, a, b, ⟨K1, h1⟩, hq⟩ := drawPut_any hc
  obtain ⟨K2, h2⟩ := implPut_any q a b (by omega)
  obtain ⟨K3, h3⟩ := specPut_any q a b (by omega)
  have hR := putR_length q a b
  obtain ⟨K4, h4⟩ := sSame_any (putR q a b).1 (by omega)
  obtain ⟨K5, h5⟩ := j3_any hc
  cases hP : putR q a b with
  | mk r o =>
    rw [hP] at h2 h3 h4
    cases o with
    | true =>
      obtain ⟨⟨K6, h6⟩, e1, e2, e3⟩ := putBack_any hP (by omega)
      obtain ⟨K7, h7⟩ := sSame_any q (by omega)
      refine ⟨K1 + K2 + K3 + K4 + K5 + K6 + K7 + 2, fun k hk => ?_⟩
      obtain ⟨m, rfl⟩ : ∃ m, k = m + 2 := ⟨k - 2, by omega⟩
      simp (disch := omega) only [laws_FnArchesPut.j1, h1, h2, h3, h4, Option.bind_some, bne_self_eq_false, Bool.false_eq_true, if_false, Bool.not_true]
      simp (disch := omega) only [laws_FnArchesPut.j2, h6, h7, h5, e1, Option.bind_some, Bool.false_eq_true, if_false, if_true, if_pos]
    | false =>
      refine ⟨K1 + K2 + K3 + K4 + K5 + 2, fun k hk => ?_⟩
      obtain ⟨m, rfl⟩ : ∃ m, k = m + 2 := ⟨k - 2, by omega⟩
      simp (disch := omega) only [laws_FnArchesPut.j1, h1, h2, h3, h4, Option.bind_some, bne_self_eq_false, Bool.false_eq_true, if_false, Bool.not_true]
      simp (disch := omega) only [laws_FnArchesPut.j2, h5, Bool.false_eq_true, if_false]
theorem FnArchesPut : laws_FnArchesPut.Pure := by
  intro l0 l1 _ _ hw0 _ _ hw1
  by_cases hb : l0.length ≤ 1048576 ∧ (l1.length : Int) ≤ 1048576 - l0.length
  · have hc0 := bys_of hb.1 hw0
    have hc1 := bys_of (c := l1) (by omega) hw1
    have hbig := big_any l0 l1 hb.1 hb.2
    obtain ⟨p, i, ⟨K1, h1⟩, hp⟩ := drawDrop_any hc0
    obtain ⟨K2, h2⟩ := implDrop_any p i (by omega)
    obtain ⟨K3, h3⟩ := specDrop_any p i (by omega)
    have hR := dropR_length p i
    obtain ⟨K4, h4⟩ := sSame_any (dropR p i).1 (by omega)
    obtain ⟨K5, h5⟩ := j1_any hc1
    by_cases c : sysB p = true ∧ (0 ≤ i ∧ i ≤ (p.length : Int) - 1) ∧ ¬ rd p i < i
    · have e : dropR p i = (dropL p i, true) := if_pos c
      obtain ⟨K6, h6⟩ := back_any c.1 c.2.1.1 (by omega) c.2.2
      obtain ⟨K7, h7⟩ := sSame_any p (by omega)
      rw [e] at h2 h3 h4
      have c1 := c.2.1.1
      have c2 : i < p.length := by omega
      refine ⟨K1 + K2 + K3 + K4 + K5 + K6 + K7 + 2, ?_⟩
      simp (disch := omega) only [laws_FnArchesPut.f, hbig, h1, h2, h3, h4, Option.bind_some, bne_self_eq_false, Bool.false_eq_true, if_false, Bool.not_true]
      simp (disch := omega) only [laws_FnArchesPut.j0, h6, h7, h5, Option.bind_some, Bool.false_eq_true, if_false, if_true, if_pos]
    · have e : dropR p i = ([], false) := if_neg c
      rw [e] at h2 h3 h4
      refine ⟨K1 + K2 + K3 + K4 + K5 + 2, ?_⟩
      simp (disch := omega) only [laws_FnArchesPut.f, hbig, h1, h2, h3, h4, Option.bind_some, bne_self_eq_false, Bool.false_eq_true, if_false, Bool.not_true]
      simp (disch := omega) only [laws_FnArchesPut.j0, h5, Bool.false_eq_true, if_false]
  · exact ⟨0, by simp only [laws_FnArchesPut.f, big_yes l0 l1 hb, Option.bind_some, if_true]⟩

end Go.Proofs.Ytonobgbpgeielaa.Pure
