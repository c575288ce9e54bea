/- The law FnExactStatesAfter returns true at every number: the program's StatesAfter and the reference's tell the same, and what came in stays as it is. Conditions: none beyond the form's own. -/
import Derived.Test.YtlbaldejaapbiaaQFnExactStatesAfterx14
namespace Go.Proofs.Ytlbaldejaapbiaa.Pure
open Go.RowKit Go.Proofs.Ytlbaldejaapbiaa.QFnExactStatesAfter Go.Proofs.YtlbaldejaapbiaaW.PrintWords Go.Proofs.YtlbaldejaapbiaaW.PrintLast
set_option linter.unusedVariables false
set_option linter.unusedSimpArgs false

/-! ### Words of my own -/
theorem w64 {x : Int} (h1 : -9223372036854775808 ≤ x) (h2 : x < 9223372036854775808) : wrap64 x = x := by unfold wrap64; omega
theorem ev_rs {α : Type} {g : Nat → Option α} {r : α} (K : Nat) (h : ∀ m, K ≤ m → g (m + 1) = some r) : ∃ K, ∀ k, K ≤ k → g k = some r := by
  refine ⟨K + 1, fun k hk => ?_⟩
  obtain ⟨m, rfl⟩ : ∃ m, k = m + 1 := ⟨k - 1, by omega⟩
  exact h m (by omega)
noncomputable def tf (P : Prop) : Bool := @decide P (Classical.propDecidable P)
theorem tf_t {P : Prop} (h : P) : tf P = true := by unfold tf; simp [h]
theorem tf_f {P : Prop} (h : ¬ P) : tf P = false := by unfold tf; simp [h]
theorem tf_iff {P : Prop} : tf P = true ↔ P := by unfold tf; simp
theorem tf_c {P Q : Prop} (h : P ↔ Q) : tf P = tf Q := by rw [propext h]
theorem tf_d {P : Prop} [Decidable P] : tf P = decide P := by
  by_cases h : P
  · rw [tf_t h]; simp [h]
  · rw [tf_f h]; simp [h]
theorem rd_def (l : List Int) (i : Int) : rd l i = l.getD i.toNat 0 := rfl
theorem rd_set (l : List Int) (i j v : Int) (hi : 0 ≤ i) (hl : i < l.length) (hj : 0 ≤ j) : rd (l.set i.toNat v) j = if j = i then v else rd l j := by
  unfold rd
  simp only [List.getD_eq_getElem?_getD, List.getElem?_set]
  by_cases e : j = i
  · subst e
    rw [if_pos rfl, if_pos rfl, if_pos (by omega)]; rfl
  · rw [if_neg (by omega), if_neg e]
theorem rd_get (l : List Int) (i : Nat) (h : i < l.length) : rd l i = l[i] := by
  unfold rd
  rw [Int.toNat_natCast, List.getD_eq_getElem?_getD, List.getElem?_eq_getElem h]; rfl
theorem rd_ext {a b : List Int} (hl : a.length = b.length) (h : ∀ j : Int, 0 ≤ j → j < a.length → rd a j = rd b j) : a = b := by
  refine List.ext_getElem hl fun i h1 h2 => ?_
  have := h i (by omega) (by omega)
  rwa [rd_get a i h1, rd_get b i h2] at this
theorem rd_mem (l : List Int) (i : Int) (h0 : 0 ≤ i) (h : i < l.length) : rd l i ∈ l := by
  have e := rd_get l i.toNat (by omega)
  rw [show ((i.toNat : Nat) : Int) = i by omega] at e
  rw [e]; exact List.getElem_mem _

theorem in_any (a lo hi : Int) : impl_in.f a lo hi = some (decide (lo ≤ a ∧ a ≤ hi)) := by
  unfold impl_in.f
  by_cases h : lo ≤ a <;> simp [h]
theorem l1In_any (a lo hi : Int) : spec_l1In.f a lo hi = some (decide (lo ≤ a ∧ a ≤ hi)) := by
  unfold spec_l1In.f
  by_cases h : lo ≤ a
  · rw [if_pos h]; simp [h]
  · rw [if_neg h]; simp [h]

def unS (x : S27) : List Int × List Int × Int := (x.f0, x.f1, x.f2)
theorem unS_inj : ∀ (l l' : List S27), l.map unS = l'.map unS → l = l'
  | [], [], _ => rfl
  | [], _ :: _, h => by simp at h
  | _ :: _, [], h => by simp at h
  | x :: l, y :: l', h => by
    simp only [List.map_cons, List.cons.injEq] at h
    obtain ⟨a, b, c⟩ := x
    obtain ⟨a2, b2, c2⟩ := y
    have h1 := h.1
    simp only [unS, Prod.mk.injEq] at h1
    obtain ⟨rfl, rfl, rfl⟩ := h1
    rw [unS_inj l l' h.2]
/-- All that the law asks, at one number. -/
def chkS (k : Nat) (a : Int) : Bool :=
  match spec_StatesAfter.f k a, impl_StatesAfter.f k a with
  | some (r, b), some (r2, b2) => (decide (r2.map unS = r.map unS) && decide (b2 = b)) && (decide (laws_eqStateS.f k r r = some true) && (match laws_markStateS.f k r 1 with
    | some (m, r') => decide (laws_heldStateS.f k r' 1 = some m) && decide (0 ≤ m)
    | none => false))
  | _, _ => false
theorem chkS_ok (k : Nat) (a : Int) (h : chkS k a = true) : ∃ (k : Nat) (r r' : List S27) (b : Bool) (m : Int), spec_StatesAfter.f k a = some (r, b) ∧ impl_StatesAfter.f k a = some (r, b) ∧ laws_eqStateS.f k r r = some true ∧ laws_markStateS.f k r 1 = some (m, r') ∧ laws_heldStateS.f k r' 1 = some m ∧ 0 ≤ m := by
  unfold chkS at h
  split at h
  · next r b r2 b2 h1 h2 =>
    rw [Bool.and_eq_true, Bool.and_eq_true, Bool.and_eq_true, decide_eq_true_eq, decide_eq_true_eq, decide_eq_true_eq] at h
    obtain ⟨⟨h3, rfl⟩, h4, h5⟩ := h
    have h6 := unS_inj _ _ h3
    subst h6
    split at h5
    · next m r' h7 =>
      rw [Bool.and_eq_true, decide_eq_true_eq, decide_eq_true_eq] at h5
      exact ⟨k, _, r', _, m, h1, h2, h4, h7, h5.1, h5.2⟩
    · cases h5
  · cases h
theorem FnExactStatesAfter : laws_FnExactStatesAfter.Pure := by
  intro a _
  by_cases h : 0 ≤ a ∧ a ≤ 6
  · have h1 : a = 0 ∨ a = 1 ∨ a = 2 ∨ a = 3 ∨ a = 4 ∨ a = 5 ∨ a = 6 := by omega
    rcases h1 with rfl | rfl | rfl | rfl | rfl | rfl | rfl
    all_goals exact chkS_ok 512 _ (by decide +kernel)
  · have h2 : decide (0 ≤ a ∧ a ≤ 6) = false := decide_eq_false h
    have e1 : spec_StatesAfter.f 1 a = some ([], false) := by simp only [spec_StatesAfter.f, l1In_any, h2, Option.bind_some, Bool.false_eq_true, if_false]
    have e2 : impl_StatesAfter.f 1 a = some ([], false) := by simp only [impl_StatesAfter.f, in_any, h2, Option.bind_some, Bool.false_eq_true, if_false]
    exact ⟨1, [], [], false, 1, e1, e2, by simp [laws_eqStateS.f, laws_eqStateS.l0], by simp [laws_markStateS.f, laws_markStateS.l0], by simp [laws_heldStateS.f, laws_heldStateS.l0], by decide⟩

end Go.Proofs.Ytlbaldejaapbiaa.Pure
