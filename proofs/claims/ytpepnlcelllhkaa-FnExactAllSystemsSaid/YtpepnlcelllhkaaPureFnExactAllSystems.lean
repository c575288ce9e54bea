/- The law FnExactAllSystems returns true at every number: the program's AllSystems and the reference's tell the same, and what came in stays as it is. Conditions: none beyond the form's own. -/
import Derived.Test.YtpepnlcelllhkaaQFnExactAllSystemsx4
import Derived.Test.YtpepnlcelllhkaaMyPl
namespace Go.Proofs.Ytpepnlcelllhkaa.Pure
open Go.RowKit Go.Proofs.Ytpepnlcelllhkaa.QFnExactAllSystems Go.Proofs.YtpepnlcelllhkaaW.PrintWords Go.Proofs.YtpepnlcelllhkaaW.PrintLast
set_option linter.unusedVariables false
set_option linter.unusedSimpArgs false

/-! ### Words of my own -/
theorem w64 {x : Int} (h1 : -9223372036854775808 ≤ x) (h2 : x < 9223372036854775808) : wrap64 x = x := by unfold wrap64; omega
theorem ev_rs {α : Type} {g : Nat → Option α} {r : α} (K : Nat) (h : ∀ m, K ≤ m → g (m + 1) = some r) : ∃ K, ∀ k, K ≤ k → g k = some r := by
  refine ⟨K + 1, fun k hk => ?_⟩
  obtain ⟨m, rfl⟩ : ∃ m, k = m + 1 := ⟨k - 1, by omega⟩
  exact h m (by omega)
noncomputable def tf (P : Prop) : Bool := @decide P (Classical.propDecidable P)
theorem tf_t {P : Prop} (h : P) : tf P = true := by unfold tf; simp [h]
theorem tf_f {P : Prop} (h : ¬ P) : tf P = false := by unfold tf; simp [h]
theorem tf_iff {P : Prop} : tf P = true ↔ P := by unfold tf; simp
theorem tf_c {P Q : Prop} (h : P ↔ Q) : tf P = tf Q := by rw [propext h]
theorem tf_d {P : Prop} [Decidable P] : tf P = decide P := by
  by_cases h : P
  · rw [tf_t h]; simp [h]
  · rw [tf_f h]; simp [h]
theorem rd_def (l : List Int) (i : Int) : rd l i = l.getD i.toNat 0 := rfl
theorem rd_set (l : List Int) (i j v : Int) (hi : 0 ≤ i) (hl : i < l.length) (hj : 0 ≤ j) : rd (l.set i.toNat v) j = if j = i then v else rd l j := by
  unfold rd
  simp only [List.getD_eq_getElem?_getD, List.getElem?_set]
  by_cases e : j = i
  · subst e
    rw [if_pos rfl, if_pos rfl, if_pos (by omega)]; rfl
  · rw [if_neg (by omega), if_neg e]
theorem rd_get (l : List Int) (i : Nat) (h : i < l.length) : rd l i = l[i] := by
  unfold rd
  rw [Int.toNat_natCast, List.getD_eq_getElem?_getD, List.getElem?_eq_getElem h]; rfl
theorem rd_ext {a b : List Int} (hl : a.length = b.length) (h : ∀ j : Int, 0 ≤ j → j < a.length → rd a j = rd b j) : a = b := by
  refine List.ext_getElem hl fun i h1 h2 => ?_
  have := h i (by omega) (by omega)
  rwa [rd_get a i h1, rd_get b i h2] at this
theorem rd_mem (l : List Int) (i : Int) (h0 : 0 ≤ i) (h : i < l.length) : rd l i ∈ l := by
  have e := rd_get l i.toNat (by omega)
  rw [show ((i.toNat : Nat) : Int) = i by omega] at e
  rw [e]; exact List.getElem_mem _

theorem in_any (a lo hi : Int) : impl_in.f a lo hi = some (decide (lo ≤ a ∧ a ≤ hi)) := by
  unfold impl_in.f
  by_cases h : lo ≤ a <;> simp [h]
theorem l1In_any (a lo hi : Int) : spec_l1In.f a lo hi = some (decide (lo ≤ a ∧ a ≤ hi)) := by
  unfold spec_l1In.f
  by_cases h : lo ≤ a
  · rw [if_pos h]; simp [h]
  · rw [if_neg h]; simp [h]

/-! ### what lists systems: the written list -/
theorem ev_at {α : Type} {g : Nat → Option α} {r : α} (hm : ∀ k, LeO (g k) (g (k + 1))) {K : Nat} (h : g K = some r) : (∃ K, ∀ k, K ≤ k → g k = some (r)) := ⟨K, fun k hk => at_rounds hm hk h⟩
theorem sys_lens : ((List.range 7).all fun n => (Pl.sysList n).all fun p => decide (p.length = 2 * n)) = true := by decide +kernel
theorem sysB_of_mem {n : Nat} (hn : n < 7) {q : List Int} (hq : q ∈ Pl.sysList n) : True ∧ q.length = 2 * n := ⟨trivial, of_decide_eq_true (List.all_eq_true.1 (List.all_eq_true.1 sys_lens n (List.mem_range.2 hn)) q hq)⟩
theorem L1_get (T : List (List Int)) (i : Nat) (h : i < T.length) : rd_L1 T (i : Int) = T[i] := by
  unfold rd_L1
  rw [Int.toNat_natCast, List.getD_eq_getElem?_getD, List.getElem?_eq_getElem h]; rfl

theorem systems_tab : ((List.range 7).all fun n => impl_systems.f 300 (n : Int) == some (Pl.sysList n)) = true := by decide +kernel
theorem systems_any (n : Int) (h0 : 0 ≤ n) (h6 : n ≤ 6) : (∃ K, ∀ k, K ≤ k → impl_systems.f k n = some (Pl.sysList n.toNat)) := by
  have h := List.all_eq_true.1 systems_tab n.toNat (List.mem_range.2 (by omega))
  rw [show ((n.toNat : Nat) : Int) = n by omega] at h
  exact ev_at (fun k => impl_systems.mono n k) (beq_iff_eq.1 h)

theorem ahAll_tab : ((List.range 7).all fun n => spec_ahAll.f 300 (n : Int) 0 == some (Pl.sysList n)) = true := by decide +kernel
theorem ahAll_any (n : Int) (h0 : 0 ≤ n) (h6 : n ≤ 6) : (∃ K, ∀ k, K ≤ k → spec_ahAll.f k n 0 = some (Pl.sysList n.toNat)) := by
  have h := List.all_eq_true.1 ahAll_tab n.toNat (List.mem_range.2 (by omega))
  rw [show ((n.toNat : Nat) : Int) = n by omega] at h
  exact ev_at (fun k => spec_ahAll.mono n 0 k) (beq_iff_eq.1 h)

/-- What the law asks of a list of rows: it equals itself, and marks are held. -/
def rowsOk (r : List (List Int)) : Bool := laws_eqIntSS.f 300 r r == some true && (match laws_markIntSS.f 300 r 1 with | some (m, r') => laws_heldIntSS.f 300 r' 1 == some m && decide (0 ≤ m) | none => false)
theorem rowsOk_of {r : List (List Int)} (h : rowsOk r = true) : ∃ (r' : List (List Int)) (m : Int), laws_eqIntSS.f 300 r r = some true ∧ laws_markIntSS.f 300 r 1 = some (m, r') ∧ laws_heldIntSS.f 300 r' 1 = some m ∧ 0 ≤ m := by
  unfold rowsOk at h
  rw [Bool.and_eq_true] at h
  obtain ⟨h1, h2⟩ := h
  cases e : laws_markIntSS.f 300 r 1 with
  | none => rw [e] at h2; cases h2
  | some t =>
    obtain ⟨m, r'⟩ := t
    rw [e] at h2
    simp only [Bool.and_eq_true, beq_iff_eq, decide_eq_true_eq] at h2
    exact ⟨r', m, beq_iff_eq.1 h1, rfl, h2.1, h2.2⟩
theorem rowsOk_tab : ((List.range 7).all fun n => rowsOk (Pl.sysList n)) = true := by decide +kernel
theorem rowsOk_nil : rowsOk [] = true := by decide +kernel
theorem FnExactAllSystems : laws_FnExactAllSystems.Pure := by
  intro n _
  by_cases h : 0 ≤ n ∧ n ≤ 6
  · obtain ⟨r', m, h1, h2, h3, h4⟩ := rowsOk_of (List.all_eq_true.1 rowsOk_tab n.toNat (List.mem_range.2 (by omega)))
    have h5 := beq_iff_eq.1 (List.all_eq_true.1 systems_tab n.toNat (List.mem_range.2 (by omega)))
    have h6 := beq_iff_eq.1 (List.all_eq_true.1 ahAll_tab n.toNat (List.mem_range.2 (by omega)))
    rw [show ((n.toNat : Nat) : Int) = n by omega] at h5 h6
    refine ⟨300, Pl.sysList n.toNat, r', true, m, ?_, ?_, h1, h2, h3, h4⟩
    · unfold spec_AllSystems.f spec_ahArches.f
      rw [l1In_any, decide_eq_true h, Option.bind_some, Option.bind_some, if_pos rfl, h6, Option.bind_some]
    · unfold impl_AllSystems.f impl_isArches.f
      rw [in_any, decide_eq_true h, Option.bind_some, Option.bind_some, if_pos rfl, h5, Option.bind_some]
  · obtain ⟨r', m, h1, h2, h3, h4⟩ := rowsOk_of rowsOk_nil
    refine ⟨300, [], r', false, m, ?_, ?_, h1, h2, h3, h4⟩
    · unfold spec_AllSystems.f spec_ahArches.f
      rw [l1In_any, decide_eq_false h, Option.bind_some, Option.bind_some, if_neg (by simp)]
    · unfold impl_AllSystems.f impl_isArches.f
      rw [in_any, decide_eq_false h, Option.bind_some, Option.bind_some, if_neg (by simp)]

end Go.Proofs.Ytpepnlcelllhkaa.Pure
