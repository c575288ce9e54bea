/- The law FnExactMeandersOf returns true at every number: the program's MeandersOf and the reference's tell the same, and what came in stays as it is. Conditions: none beyond the form's own. -/
import Derived.Test.YtpepnlcelllhkaaQFnExactMeandersOfx9
namespace Go.Proofs.Ytpepnlcelllhkaa.Pure
open Go.RowKit Go.Proofs.Ytpepnlcelllhkaa.QFnExactMeandersOf Go.Proofs.YtpepnlcelllhkaaW.PrintWords Go.Proofs.YtpepnlcelllhkaaW.PrintLast
set_option linter.unusedVariables false
set_option linter.unusedSimpArgs false

/-! ### Words of my own -/
theorem w64 {x : Int} (h1 : -9223372036854775808 ≤ x) (h2 : x < 9223372036854775808) : wrap64 x = x := by unfold wrap64; omega
theorem ev_rs {α : Type} {g : Nat → Option α} {r : α} (K : Nat) (h : ∀ m, K ≤ m → g (m + 1) = some r) : ∃ K, ∀ k, K ≤ k → g k = some r := by
  refine ⟨K + 1, fun k hk => ?_⟩
  obtain ⟨m, rfl⟩ : ∃ m, k = m + 1 := ⟨k - 1, by omega⟩
  exact h m (by omega)
noncomputable def tf (P : Prop) : Bool := @decide P (Classical.propDecidable P)
theorem tf_t {P : Prop} (h : P) : tf P = true := by unfold tf; simp [h]
theorem tf_f {P : Prop} (h : ¬ P) : tf P = false := by unfold tf; simp [h]
theorem tf_iff {P : Prop} : tf P = true ↔ P := by unfold tf; simp
theorem tf_c {P Q : Prop} (h : P ↔ Q) : tf P = tf Q := by rw [propext h]
theorem tf_d {P : Prop} [Decidable P] : tf P = decide P := by
  by_cases h : P
  · rw [tf_t h]; simp [h]
  · rw [tf_f h]; simp [h]
theorem rd_def (l : List Int) (i : Int) : rd l i = l.getD i.toNat 0 := rfl
theorem rd_set (l : List Int) (i j v : Int) (hi : 0 ≤ i) (hl : i < l.length) (hj : 0 ≤ j) : rd (l.set i.toNat v) j = if j = i then v else rd l j := by
  unfold rd
  simp only [List.getD_eq_getElem?_getD, List.getElem?_set]
  by_cases e : j = i
  · subst e
    rw [if_pos rfl, if_pos rfl, if_pos (by omega)]; rfl
  · rw [if_neg (by omega), if_neg e]
theorem rd_get (l : List Int) (i : Nat) (h : i < l.length) : rd l i = l[i] := by
  unfold rd
  rw [Int.toNat_natCast, List.getD_eq_getElem?_getD, List.getElem?_eq_getElem h]; rfl
theorem rd_ext {a b : List Int} (hl : a.length = b.length) (h : ∀ j : Int, 0 ≤ j → j < a.length → rd a j = rd b j) : a = b := by
  refine List.ext_getElem hl fun i h1 h2 => ?_
  have := h i (by omega) (by omega)
  rwa [rd_get a i h1, rd_get b i h2] at this
theorem rd_mem (l : List Int) (i : Int) (h0 : 0 ≤ i) (h : i < l.length) : rd l i ∈ l := by
  have e := rd_get l i.toNat (by omega)
  rw [show ((i.toNat : Nat) : Int) = i by omega] at e
  rw [e]; exact List.getElem_mem _

theorem in_any (a lo hi : Int) : impl_in.f a lo hi = some (decide (lo ≤ a ∧ a ≤ hi)) := by
  unfold impl_in.f
  by_cases h : lo ≤ a <;> simp [h]
theorem l1In_any (a lo hi : Int) : spec_l1In.f a lo hi = some (decide (lo ≤ a ∧ a ≤ hi)) := by
  unfold spec_l1In.f
  by_cases h : lo ≤ a
  · rw [if_pos h]; simp [h]
  · rw [if_neg h]; simp [h]

/-! ### meanders by their ranks -/
theorem at_rounds' {α : Type} {g : Nat → Option α} (hm : ∀ k, LeO (g k) (g (k + 1))) {K k : Nat} (h : K ≤ k) {r : α} (e : g K = some r) : g k = some r := by
  obtain ⟨d, rfl⟩ : ∃ d, k = K + d := ⟨k - K, by omega⟩
  clear h
  induction d with
  | zero => exact e
  | succ d ih => exact hm _ _ ih
def prOf (x : S44) : List Int × List Int := (x.f0, x.f1)
theorem prOf_inj : ∀ {a b : List S44}, a.map prOf = b.map prOf → a = b
  | [], [], _ => rfl
  | x :: a, y :: b, h => by
    rw [List.map_cons, List.map_cons] at h
    injection h with h1 h2
    cases x
    cases y
    injection h1 with h3 h4
    simp only at h3 h4
    rw [h3, h4, prOf_inj h2]
  | [], _ :: _, h => by cases h
  | _ :: _, [], h => by cases h
def mwB (o p : Option (List S44)) : Bool := match o, p with
  | some a, some b => a.map prOf == b.map prOf && decide (a.length ≤ 42) && a.all (fun x => decide (x.f0.length ≤ 8) && decide (x.f1.length ≤ 8))
  | _, _ => false
theorem mw_tab : ((List.range 5).all fun n => mwB (impl_meanders.f 700 ((n : Nat) : Int)) (spec_meAll.f 700 ((n : Nat) : Int))) = true := by decide +kernel
def ML (n : Nat) : List S44 := (impl_meanders.f 700 ((n : Nat) : Int)).getD []
theorem ML_any {n : Nat} (h : n < 5) : impl_meanders.f 700 ((n : Nat) : Int) = some (ML n) ∧ spec_meAll.f 700 ((n : Nat) : Int) = some (ML n) ∧ (ML n).length ≤ 42 ∧ ∀ x ∈ ML n, x.f0.length ≤ 8 ∧ x.f1.length ≤ 8 := by
  have t := List.all_eq_true.1 mw_tab _ (List.mem_range.2 h)
  unfold ML
  generalize impl_meanders.f 700 ((n : Nat) : Int) = o at t ⊢
  generalize spec_meAll.f 700 ((n : Nat) : Int) = p at t ⊢
  unfold mwB at t
  cases o with
  | none => cases t
  | some a =>
    cases p with
    | none => cases t
    | some b =>
      simp only [Bool.and_eq_true, beq_iff_eq, decide_eq_true_eq, List.all_eq_true] at t
      obtain ⟨⟨h1, h2⟩, h3⟩ := t
      rw [prOf_inj h1] at h2 h3 ⊢
      exact ⟨rfl, rfl, h2, h3⟩

def moB (L : List S44) : Bool := match laws_markMeanderS.f 700 L 1 with
  | some (m, r') => laws_eqMeanderS.f 700 L L == some true && laws_heldMeanderS.f 700 r' 1 == some m && decide (0 ≤ m)
  | none => false
theorem mo_tab : ((List.range 5).all fun n => moB (ML n)) = true := by decide +kernel
theorem moB_any {L : List S44} (h : moB L = true) : ∃ m r', laws_markMeanderS.f 700 L 1 = some (m, r') ∧ laws_eqMeanderS.f 700 L L = some true ∧ laws_heldMeanderS.f 700 r' 1 = some m ∧ 0 ≤ m := by
  unfold moB at h
  cases e : laws_markMeanderS.f 700 L 1 with
  | none => rw [e] at h; cases h
  | some p =>
    obtain ⟨m, r'⟩ := p
    rw [e] at h
    simp only [Bool.and_eq_true, beq_iff_eq, decide_eq_true_eq] at h
    exact ⟨m, r', rfl, h.1.1, h.1.2, h.2⟩
theorem FnExactMeandersOf : laws_FnExactMeandersOf.Pure := by
  intro n _
  by_cases h : 0 ≤ n ∧ n ≤ 4
  · obtain ⟨h1, h2, _, _⟩ := ML_any (n := n.toNat) (by omega)
    obtain ⟨m, r', e1, e2, e3, e4⟩ := moB_any (List.all_eq_true.1 mo_tab _ (List.mem_range.2 (show n.toNat < 5 by omega)))
    rw [show ((n.toNat : Nat) : Int) = n by omega] at h1 h2
    refine ⟨700, ML n.toNat, r', true, m, ?_, ?_, e2, e1, e3, e4⟩
    · simp only [spec_MeandersOf.f, spec_meListed.f, l1In_any, decide_eq_true h, Option.bind_some, if_true, h2]
    · simp only [impl_MeandersOf.f, impl_isListed.f, in_any, decide_eq_true h, Option.bind_some, if_true, h1]
  · refine ⟨700, [], [], false, 1, ?_, ?_, by decide +kernel, rfl, by decide +kernel, by decide⟩
    · simp only [spec_MeandersOf.f, spec_meListed.f, l1In_any, decide_eq_false h, Option.bind_some, Bool.false_eq_true, if_false]
    · simp only [impl_MeandersOf.f, impl_isListed.f, in_any, decide_eq_false h, Option.bind_some, Bool.false_eq_true, if_false]

end Go.Proofs.Ytpepnlcelllhkaa.Pure
