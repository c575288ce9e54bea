/- The law FnExactSystemWith returns true at every pair of numbers: the program's SystemWith and the reference's tell the same, and what came in stays as it is. Conditions: none beyond the form's own. -/
import Derived.Test.YtpepnlcelllhkaaQFnExactSystemWithx4
import Derived.Test.YtpepnlcelllhkaaMyPl
namespace Go.Proofs.Ytpepnlcelllhkaa.Pure
open Go.RowKit Go.Proofs.Ytpepnlcelllhkaa.QFnExactSystemWith Go.Proofs.YtpepnlcelllhkaaW.PrintWords Go.Proofs.YtpepnlcelllhkaaW.PrintLast
set_option linter.unusedVariables false
set_option linter.unusedSimpArgs false

/-! ### Words of my own -/
theorem w64 {x : Int} (h1 : -9223372036854775808 ≤ x) (h2 : x < 9223372036854775808) : wrap64 x = x := by unfold wrap64; omega
theorem ev_rs {α : Type} {g : Nat → Option α} {r : α} (K : Nat) (h : ∀ m, K ≤ m → g (m + 1) = some r) : ∃ K, ∀ k, K ≤ k → g k = some r := by
  refine ⟨K + 1, fun k hk => ?_⟩
  obtain ⟨m, rfl⟩ : ∃ m, k = m + 1 := ⟨k - 1, by omega⟩
  exact h m (by omega)
noncomputable def tf (P : Prop) : Bool := @decide P (Classical.propDecidable P)
theorem tf_t {P : Prop} (h : P) : tf P = true := by unfold tf; simp [h]
theorem tf_f {P : Prop} (h : ¬ P) : tf P = false := by unfold tf; simp [h]
theorem tf_iff {P : Prop} : tf P = true ↔ P := by unfold tf; simp
theorem tf_c {P Q : Prop} (h : P ↔ Q) : tf P = tf Q := by rw [propext h]
theorem tf_d {P : Prop} [Decidable P] : tf P = decide P := by
  by_cases h : P
  · rw [tf_t h]; simp [h]
  · rw [tf_f h]; simp [h]
theorem rd_def (l : List Int) (i : Int) : rd l i = l.getD i.toNat 0 := rfl
theorem rd_set (l : List Int) (i j v : Int) (hi : 0 ≤ i) (hl : i < l.length) (hj : 0 ≤ j) : rd (l.set i.toNat v) j = if j = i then v else rd l j := by
  unfold rd
  simp only [List.getD_eq_getElem?_getD, List.getElem?_set]
  by_cases e : j = i
  · subst e
    rw [if_pos rfl, if_pos rfl, if_pos (by omega)]; rfl
  · rw [if_neg (by omega), if_neg e]
theorem rd_get (l : List Int) (i : Nat) (h : i < l.length) : rd l i = l[i] := by
  unfold rd
  rw [Int.toNat_natCast, List.getD_eq_getElem?_getD, List.getElem?_eq_getElem h]; rfl
theorem rd_ext {a b : List Int} (hl : a.length = b.length) (h : ∀ j : Int, 0 ≤ j → j < a.length → rd a j = rd b j) : a = b := by
  refine List.ext_getElem hl fun i h1 h2 => ?_
  have := h i (by omega) (by omega)
  rwa [rd_get a i h1, rd_get b i h2] at this
theorem rd_mem (l : List Int) (i : Int) (h0 : 0 ≤ i) (h : i < l.length) : rd l i ∈ l := by
  have e := rd_get l i.toNat (by omega)
  rw [show ((i.toNat : Nat) : Int) = i by omega] at e
  rw [e]; exact List.getElem_mem _

/-! ### laws.eqIntS, laws.toIntS -/
theorem eqIntS_l (a b : List Int) (hl : a.length = b.length) (hn : a.length < 4611686018427387904) (d : Nat) : ∀ i : Int, 0 ≤ i → (a.length : Int) - i ≤ d →
    (∃ K, ∀ k, K ≤ k → laws_eqIntS.l0 k a b i = some (tf (∀ j : Int, i ≤ j → j < a.length → rd a j = rd b j))) := by
  induction d with
  | zero =>
    intro i h0 hd
    refine ev_rs 0 fun m _ => ?_
    simp (disch := omega) only [laws_eqIntS.l0, if_neg]
    rw [tf_t]
    intro j h1 h2; omega
  | succ d ih =>
    intro i h0 hd
    by_cases hlt : i < (a.length : Int)
    · obtain ⟨K, ih⟩ := ih (i + 1) (by omega) (by omega)
      by_cases he : rd a i = rd b i
      · refine ev_rs K fun m hm => ?_
        simp (disch := omega) only [laws_eqIntS.l0, if_pos, w64]
        rw [ih m hm]
        congr 1
        refine tf_c ⟨fun h j h1 h2 => ?_, fun h j h1 h2 => h j (by omega) h2⟩
        by_cases e : j = i
        · rw [e]; exact he
        · exact h j (by omega) h2
      · refine ev_rs 0 fun m hm => ?_
        simp (disch := omega) only [laws_eqIntS.l0, if_pos]
        first | rw [if_neg he, tf_f] | rw [tf_f]
        exact fun h => he (h i (Int.le_refl _) hlt)
    · refine ev_rs 0 fun m _ => ?_
      simp (disch := omega) only [laws_eqIntS.l0, if_neg]
      rw [tf_t]
      intro j h1 h2; omega
theorem eqIntS_any (a b : List Int) (hn : a.length < 4611686018427387904) : (∃ K, ∀ k, K ≤ k → laws_eqIntS.f k a b = some (decide (a = b))) := by
  by_cases hl : a.length = b.length
  · obtain ⟨K, h⟩ := eqIntS_l a b hl hn a.length 0 (by omega) (by omega)
    refine ⟨K, fun k hk => ?_⟩
    unfold laws_eqIntS.f
    rw [if_pos (by omega), h k hk, ← tf_d]
    congr 1
    exact tf_c ⟨fun h => rd_ext hl fun j => h j, fun h j _ _ => by rw [h]⟩
  · refine ⟨0, fun k hk => ?_⟩
    unfold laws_eqIntS.f
    rw [if_neg (by omega)]
    congr 1
    exact (decide_eq_false fun h => hl (by rw [h])).symm

/-! ### laws.markIntS, laws.heldIntS -/
/-- The numbers from a on stand in a list from a place on. -/
def Runs (l : List Int) (a i : Int) : Prop := ∀ j : Int, i ≤ j → j < l.length → rd l j = a + (j - i)
theorem markIntS_l (d : Nat) : ∀ (x : List Int) (a i : Int), 0 ≤ i → 0 ≤ a → a + (x.length - i) < 1152921504606846976 → i ≤ x.length → (x.length : Int) < 1152921504606846976 → (x.length : Int) - i ≤ d →
    ∃ y, (∃ K, ∀ k, K ≤ k → laws_markIntS.l0 k x a i = some ((a + (x.length - i), y))) ∧ y.length = x.length ∧ Runs y a i ∧ ∀ j : Int, 0 ≤ j → j < i → rd y j = rd x j := by
  induction d with
  | zero =>
    intro x a i h0 ha hb hi hn hd
    refine ⟨x, ev_rs 0 fun m _ => ?_, rfl, fun j h1 h2 => by omega, fun j _ _ => rfl⟩
    simp (disch := omega) only [laws_markIntS.l0, if_neg]
    rw [show a + ((x.length : Int) - i) = a by omega]
  | succ d ih =>
    intro x a i h0 ha hb hi hn hd
    by_cases hlt : i < (x.length : Int)
    · obtain ⟨y, ⟨K, ih⟩, hl, hr, hk⟩ := ih (x.set i.toNat a) (a + 1) (i + 1) (by omega) (by omega) (by simp; omega) (by simp; omega) (by simpa using hn) (by simp; omega)
      refine ⟨y, ev_rs K fun m hm => ?_, by simpa using hl, fun j h1 h2 => ?_, fun j h1 h2 => ?_⟩
      · simp (disch := omega) only [laws_markIntS.l0, if_pos, w64]
        rw [ih m hm]
        rw [List.length_set, show a + 1 + ((x.length : Int) - (i + 1)) = a + (x.length - i) by omega]
      · by_cases e : j = i
        · rw [hk j (by omega) (by omega), rd_set x i j _ h0 hlt (by omega), if_pos e]; omega
        · rw [hr j (by omega) h2]; omega
      · rw [hk j h1 (by omega), rd_set x i j _ h0 hlt h1, if_neg (by omega)]
    · refine ⟨x, ev_rs 0 fun m _ => ?_, rfl, fun j h1 h2 => by omega, fun j _ _ => rfl⟩
      simp (disch := omega) only [laws_markIntS.l0, if_neg]
      rw [show a + ((x.length : Int) - i) = a by omega]
theorem heldIntS_l (d : Nat) : ∀ (x : List Int) (a i : Int), 0 ≤ i → 0 ≤ a → a + (x.length - i) < 1152921504606846976 → i ≤ x.length → (x.length : Int) < 1152921504606846976 → (x.length : Int) - i ≤ d → Runs x a i →
    (∃ K, ∀ k, K ≤ k → laws_heldIntS.l0 k x a i = some (a + (x.length - i))) := by
  induction d with
  | zero =>
    intro x a i h0 ha hb hi hn hd hr
    refine ev_rs 0 fun m _ => ?_
    simp (disch := omega) only [laws_heldIntS.l0, if_neg]
    rw [show a + ((x.length : Int) - i) = a by omega]
  | succ d ih =>
    intro x a i h0 ha hb hi hn hd hr
    by_cases hlt : i < (x.length : Int)
    · obtain ⟨K, ih⟩ := ih x (a + 1) (i + 1) (by omega) (by omega) (by omega) (by omega) hn (by omega) (fun j h1 h2 => by rw [hr j (by omega) h2]; omega)
      refine ev_rs K fun m hm => ?_
      have he : rd x i = a := by rw [hr i (Int.le_refl _) hlt]; omega
      simp (disch := omega) only [laws_heldIntS.l0, if_pos, w64]
      rw [ih m hm]
      rw [show a + 1 + ((x.length : Int) - (i + 1)) = a + (x.length - i) by omega]
    · refine ev_rs 0 fun m _ => ?_
      simp (disch := omega) only [laws_heldIntS.l0, if_neg]
      rw [show a + ((x.length : Int) - i) = a by omega]
/-- What is marked is held. -/
theorem marks_any (x : List Int) (a : Int) (ha : 0 ≤ a) (hb : a + x.length < 1152921504606846976) :
    ∃ y, (∃ K, ∀ k, K ≤ k → laws_markIntS.f k x a = some ((a + x.length, y))) ∧ y.length = x.length ∧ (∃ K, ∀ k, K ≤ k → laws_heldIntS.f k y a = some (a + x.length)) := by
  obtain ⟨y, h, hl, hr, _⟩ := markIntS_l x.length x a 0 (by omega) ha (by omega) (by omega) (by omega) (by omega)
  refine ⟨y, ?_, hl, ?_⟩
  · simpa [laws_markIntS.f] using h
  · have := heldIntS_l y.length y a 0 (by omega) ha (by omega) (by omega) (by omega) (by omega) hr
    simpa [laws_heldIntS.f, hl] using this

theorem in_any (a lo hi : Int) : impl_in.f a lo hi = some (decide (lo ≤ a ∧ a ≤ hi)) := by
  unfold impl_in.f
  by_cases h : lo ≤ a <;> simp [h]
theorem l1In_any (a lo hi : Int) : spec_l1In.f a lo hi = some (decide (lo ≤ a ∧ a ≤ hi)) := by
  unfold spec_l1In.f
  by_cases h : lo ≤ a
  · rw [if_pos h]; simp [h]
  · rw [if_neg h]; simp [h]

/-! ### what lists systems: the written list -/
theorem ev_at {α : Type} {g : Nat → Option α} {r : α} (hm : ∀ k, LeO (g k) (g (k + 1))) {K : Nat} (h : g K = some r) : (∃ K, ∀ k, K ≤ k → g k = some (r)) := ⟨K, fun k hk => at_rounds hm hk h⟩
theorem sys_lens : ((List.range 7).all fun n => (Pl.sysList n).all fun p => decide (p.length = 2 * n)) = true := by decide +kernel
theorem sysB_of_mem {n : Nat} (hn : n < 7) {q : List Int} (hq : q ∈ Pl.sysList n) : True ∧ q.length = 2 * n := ⟨trivial, of_decide_eq_true (List.all_eq_true.1 (List.all_eq_true.1 sys_lens n (List.mem_range.2 hn)) q hq)⟩
theorem L1_get (T : List (List Int)) (i : Nat) (h : i < T.length) : rd_L1 T (i : Int) = T[i] := by
  unfold rd_L1
  rw [Int.toNat_natCast, List.getD_eq_getElem?_getD, List.getElem?_eq_getElem h]; rfl

theorem systems_tab : ((List.range 7).all fun n => impl_systems.f 300 (n : Int) == some (Pl.sysList n)) = true := by decide +kernel
theorem systems_any (n : Int) (h0 : 0 ≤ n) (h6 : n ≤ 6) : (∃ K, ∀ k, K ≤ k → impl_systems.f k n = some (Pl.sysList n.toNat)) := by
  have h := List.all_eq_true.1 systems_tab n.toNat (List.mem_range.2 (by omega))
  rw [show ((n.toNat : Nat) : Int) = n by omega] at h
  exact ev_at (fun k => impl_systems.mono n k) (beq_iff_eq.1 h)

theorem ahAll_tab : ((List.range 7).all fun n => spec_ahAll.f 300 (n : Int) 0 == some (Pl.sysList n)) = true := by decide +kernel
theorem ahAll_any (n : Int) (h0 : 0 ≤ n) (h6 : n ≤ 6) : (∃ K, ∀ k, K ≤ k → spec_ahAll.f k n 0 = some (Pl.sysList n.toNat)) := by
  have h := List.all_eq_true.1 ahAll_tab n.toNat (List.mem_range.2 (by omega))
  rw [show ((n.toNat : Nat) : Int) = n by omega] at h
  exact ev_at (fun k => spec_ahAll.mono n 0 k) (beq_iff_eq.1 h)

/-! ### a system by its rank -/
def withR (n r : Int) : List Int × Bool := if 0 ≤ n ∧ n ≤ 6 then (if 0 ≤ r ∧ r < ((Pl.sysList n.toNat).length : Int) then (rd_L1 (Pl.sysList n.toNat) r, true) else ([], false)) else ([], false)
theorem ahCount_tab : ((List.range 7).all fun n => spec_ahCount.f 20 (n : Int) == some ((Pl.sysList n).length : Int)) = true := by decide +kernel
theorem ahCount_any (n : Int) (h0 : 0 ≤ n) (h6 : n ≤ 6) : (∃ K, ∀ k, K ≤ k → spec_ahCount.f k n = some (((Pl.sysList n.toNat).length : Int))) := by
  have h := List.all_eq_true.1 ahCount_tab n.toNat (List.mem_range.2 (by omega))
  rw [show ((n.toNat : Nat) : Int) = n by omega] at h
  exact ev_at (fun k => spec_ahCount.mono n k) (beq_iff_eq.1 h)
theorem sysList_len : ((List.range 7).all fun n => decide ((Pl.sysList n).length ≤ 132 ∧ 0 < (Pl.sysList n).length)) = true := by decide +kernel
theorem sysList_short {n : Nat} (h : n < 7) : (Pl.sysList n).length ≤ 132 ∧ 0 < (Pl.sysList n).length := of_decide_eq_true (List.all_eq_true.1 sysList_len n (List.mem_range.2 h))
theorem implWith_any (n r : Int) : (∃ K, ∀ k, K ≤ k → impl_SystemWith.f k n r = some (withR n r)) := by
  by_cases h : 0 ≤ n ∧ n ≤ 6
  · obtain ⟨K, hK⟩ := systems_any n h.1 h.2
    obtain ⟨h1, h2⟩ := sysList_short (n := n.toNat) (by omega)
    refine ⟨K, fun k hk => ?_⟩
    unfold withR
    simp only [impl_SystemWith.f, impl_isArches.f, in_any, decide_eq_true h, hK k hk, Option.bind_some, if_true, if_pos h]
    rw [w64 (by omega) (by omega)]
    by_cases hr : 0 ≤ r ∧ r < ((Pl.sysList n.toNat).length : Int)
    · rw [decide_eq_true (by omega : 0 ≤ r ∧ r ≤ ((Pl.sysList n.toNat).length : Int) - 1), if_pos rfl, if_pos hr.1, if_pos hr.2, if_pos hr]
    · rw [decide_eq_false (by omega : ¬ (0 ≤ r ∧ r ≤ ((Pl.sysList n.toNat).length : Int) - 1)), if_neg (by simp), if_neg hr]
  · refine ⟨0, fun k hk => ?_⟩
    unfold withR
    simp only [impl_SystemWith.f, impl_isArches.f, in_any, decide_eq_false h, Option.bind_some, Bool.false_eq_true, if_false, if_neg h]
theorem specWith_any (n r : Int) : (∃ K, ∀ k, K ≤ k → spec_SystemWith.f k n r = some (withR n r)) := by
  by_cases h : 0 ≤ n ∧ n ≤ 6
  · obtain ⟨K, hK⟩ := ahAll_any n h.1 h.2
    obtain ⟨K2, hK2⟩ := ahCount_any n h.1 h.2
    obtain ⟨h1, h2⟩ := sysList_short (n := n.toNat) (by omega)
    refine ⟨K + K2, fun k hk => ?_⟩
    unfold withR
    simp only [spec_SystemWith.f, spec_ahArches.f, l1In_any, decide_eq_true h, hK k (by omega), hK2 k (by omega), Option.bind_some, if_true, if_pos h]
    rw [w64 (by omega) (by omega)]
    by_cases hr : 0 ≤ r ∧ r < ((Pl.sysList n.toNat).length : Int)
    · rw [decide_eq_true (by omega : 0 ≤ r ∧ r ≤ ((Pl.sysList n.toNat).length : Int) - 1), if_pos rfl, if_pos hr.1, if_pos hr.2, if_pos hr]
    · rw [decide_eq_false (by omega : ¬ (0 ≤ r ∧ r ≤ ((Pl.sysList n.toNat).length : Int) - 1)), if_neg (by simp), if_neg hr]
  · refine ⟨0, fun k hk => ?_⟩
    unfold withR
    simp only [spec_SystemWith.f, spec_ahArches.f, l1In_any, decide_eq_false h, Option.bind_some, Bool.false_eq_true, if_false, if_neg h]

theorem withR_length (n r : Int) : (withR n r).1.length ≤ 1048576 := by
  unfold withR
  split
  · split
    · rename_i h hr
      have h1 : rd_L1 (Pl.sysList n.toNat) r ∈ Pl.sysList n.toNat := by
        have := List.getElem_mem (l := Pl.sysList n.toNat) (n := r.toNat) (by omega)
        rwa [← L1_get _ r.toNat (by omega), show ((r.toNat : Nat) : Int) = r by omega] at this
      have := (sysB_of_mem (n := n.toNat) (by omega) h1).2
      show (rd_L1 (Pl.sysList n.toNat) r).length ≤ 1048576
      omega
    · simp
  · simp

theorem FnExactSystemWith : laws_FnExactSystemWith.Pure := by
  intro n r _ _
  obtain ⟨KI, hI⟩ := implWith_any n r 
  obtain ⟨KS, hS⟩ := specWith_any n r 
  have hR := withR_length n r
  obtain ⟨KR, hE⟩ := eqIntS_any (withR n r).1 (withR n r).1 (by omega)
  obtain ⟨zz, ⟨KZ, hM⟩, _, ⟨KH, hH⟩⟩ := marks_any (withR n r).1 1 (by omega) (by omega)
  have hp2 : ¬ (1 : Int) + (withR n r).1.length < 0 := by omega
  refine ⟨KI + KS + KR + KZ + KH + 6, ?_⟩
  simp (disch := omega) only [laws_FnExactSystemWith.f, Bool.false_eq_true, if_false, if_neg, hI, hS, hp2, hE, hM, hH, Option.bind_some, decide_true, if_true, bne_self_eq_false, and_self]
  simp (disch := omega) only [laws_FnExactSystemWith.j0, Bool.false_eq_true, if_false, if_neg, hI, hS, hp2, hE, hM, hH, Option.bind_some, decide_true, if_true, bne_self_eq_false, and_self]
  simp (disch := omega) only [laws_FnExactSystemWith.j1, Bool.false_eq_true, if_false, if_neg, hI, hS, hp2, hE, hM, hH, Option.bind_some, decide_true, if_true, bne_self_eq_false, and_self]

end Go.Proofs.Ytpepnlcelllhkaa.Pure
