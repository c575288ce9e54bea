/- The law FnExactJoinMeanders returns true at every input: the program's JoinMeanders and the reference's give the same. Conditions: none beyond the form's own. -/
import Derived.Test.YtakdhnhncmkigaaQFnExactJoinMeandersx8
namespace Go.Proofs.Ytakdhnhncmkigaa.Pure
open Go.RowKit Go.Proofs.Ytakdhnhncmkigaa.QFnExactJoinMeanders Go.Proofs.YtakdhnhncmkigaaW.PrintWords Go.Proofs.YtakdhnhncmkigaaW.PrintLast
set_option linter.unusedVariables false
set_option linter.unusedSimpArgs false

/-! ### Plain mathematics of arch systems: no program in it -/
namespace Pl

structure Sys (n : Int) (q : Int → Int) : Prop where
  lo : ∀ i, 0 ≤ i → i < n → 0 ≤ q i
  hi : ∀ i, 0 ≤ i → i < n → q i < n
  ne : ∀ i, 0 ≤ i → i < n → q i ≠ i
  inv : ∀ i, 0 ≤ i → i < n → q (q i) = i
  cr : ∀ a b, 0 ≤ a → a < n → a < b → b < q a → a ≤ q b ∧ q b ≤ q a

inductive Desc : Int → List Int → Prop
  | nil (i : Int) : Desc i []
  | cons {i j : Int} {t : List Int} : j < i → Desc j t → Desc i (j :: t)

theorem Desc.lt {i : Int} {l : List Int} (h : Desc i l) : ∀ a ∈ l, a < i := by
  induction h with
  | nil => intro a h; cases h
  | cons hj _ ih =>
    intro a ha
    rcases List.mem_cons.1 ha with rfl | ha
    · exact hj
    · have := ih a ha; omega

theorem Desc.mono {i j : Int} {l : List Int} (h : Desc i l) (hij : i ≤ j) : Desc j l := by
  cases h with
  | nil => exact .nil _
  | cons h1 h2 => exact .cons (by omega) h2

structure Ideal (q : Int → Int) (i : Int) (op : List Int) : Prop where
  desc : Desc i op
  mem : ∀ a, a ∈ op ↔ 0 ≤ a ∧ a < i ∧ i ≤ q a
  inv : ∀ a, 0 ≤ a → a < i → q (q a) = a ∧ q a ≠ a
  cr : ∀ a b, 0 ≤ a → a < b → b < q a → q a < i → a ≤ q b ∧ q b ≤ q a
  par : op.length % 2 = i.toNat % 2

theorem Ideal.start (q : Int → Int) : Ideal q 0 [] where
  desc := .nil _
  mem := fun a => ⟨fun h => (by cases h), fun h => (by omega)⟩
  inv := fun a _ _ => by omega
  cr := fun a b _ _ _ _ => by omega
  par := rfl

variable {q : Int → Int} {i j n : Int} {op t : List Int}

theorem Ideal.push (h : Ideal q i op) (h0 : 0 ≤ i) (h1 : i < q i) (h2 : q (q i) = i) : Ideal q (i + 1) (i :: op) where
  desc := .cons (by omega) h.desc
  mem := fun a => by
    rw [List.mem_cons, h.mem]
    constructor
    · rintro (rfl | ⟨a0, a1, a2⟩)
      · omega
      · refine ⟨a0, by omega, ?_⟩
        have : q a ≠ i := fun e => by
          have := (h.inv a a0 a1).1
          rw [e] at this; omega
        omega
    · rintro ⟨a0, a1, a2⟩
      by_cases e : a = i
      · exact .inl e
      · exact .inr ⟨a0, by omega, by omega⟩
  inv := fun a a0 a1 => by
    by_cases e : a = i
    · subst e; exact ⟨h2, by omega⟩
    · exact h.inv a a0 (by omega)
  cr := fun a b a0 ab bq qi => by
    by_cases e : q a = i
    · have hai : a < i := by omega
      have := (h.inv a a0 hai).1
      rw [e] at this; omega
    · exact h.cr a b a0 ab bq (by omega)
  par := by have := h.par; rw [List.length_cons]; omega

theorem Ideal.pop (h : Ideal q i (j :: t)) (h0 : 0 ≤ i) (h1 : q i = j) (h2 : j < i) (h3 : q j = i) (hlo : ∀ b, 0 ≤ b → b < i → 0 ≤ q b) : Ideal q (i + 1) t := by
  have hj := (h.mem j).1 (List.mem_cons_self ..)
  have hd : Desc j t := by cases h.desc with | cons _ h => exact h
  refine ⟨hd.mono (by omega), fun a => ?_, fun a a0 a1 => ?_, fun a b a0 ab bq qi => ?_, ?_⟩
  · have hm := h.mem a
    rw [List.mem_cons] at hm
    constructor
    · intro ha
      have h4 := hm.1 (.inr ha)
      have := hd.lt a ha
      have : q a ≠ i := fun e => by
        have := (h.inv a h4.1 h4.2.1).1
        rw [e] at this; omega
      omega
    · rintro ⟨a0, a1, a2⟩
      have : a ≠ i := fun e => by subst e; omega
      rcases hm.2 ⟨a0, by omega, by omega⟩ with rfl | ha
      · omega
      · exact ha
  · by_cases e : a = i
    · subst e; rw [h1]; exact ⟨h3, by omega⟩
    · exact h.inv a a0 (by omega)
  · by_cases e : q a = i
    · have hai : a = j := by
        have h4 := (h.inv a a0 (by omega)).1
        rw [e] at h4; omega
      subst hai
      have hm := h.mem b
      have hqb : q b < i := by
        by_cases hb : i ≤ q b
        · have h5 := hm.2 ⟨by omega, by omega, hb⟩
          rcases List.mem_cons.1 h5 with rfl | h6
          · omega
          · have := hd.lt b h6; omega
        · omega
      refine ⟨?_, by omega⟩
      by_cases hlt : q b < a
      · have hb := h.inv b (by omega) (by omega)
        have h7 := hlo b (by omega) (by omega)
        have h8 := h.cr (q b) a h7 hlt (by omega) (by omega)
        omega
      · omega
    · exact h.cr a b a0 ab bq (by omega)
  · have := h.par; rw [List.length_cons] at this; omega


theorem Ideal.fail_self (h : q i = i) (h0 : 0 ≤ i) (h1 : i < n) : ¬ Sys n q := fun s => s.ne i h0 h1 h
theorem Ideal.fail_push (h : q (q i) ≠ i) (h0 : 0 ≤ i) (h1 : i < n) : ¬ Sys n q := fun s => h (s.inv i h0 h1)
theorem Ideal.fail_pop (h : Ideal q i op) (h0 : 0 ≤ i) (h1 : i < n) (h2 : q i < i) (h3 : op.head? ≠ some (q i)) : ¬ Sys n q := by
  intro s
  have h4 := s.inv i h0 h1
  have h5 := s.lo i h0 h1
  have hm := (h.mem (q i)).2 ⟨h5, h2, by omega⟩
  cases op with
  | nil => cases hm
  | cons b t =>
    have hb := (h.mem b).1 (List.mem_cons_self ..)
    have hne : b ≠ q i := fun e => h3 (by rw [e]; rfl)
    have hmt : q i ∈ t := by
      rcases List.mem_cons.1 hm with e | e
      · exact absurd e.symm hne
      · exact e
    have hlt : q i < b := by
      cases h.desc with
      | cons _ hd => exact hd.lt _ hmt
    have h6 := s.cr (q i) b h5 (s.hi i h0 h1) hlt (by omega)
    have h7 : q b ≠ i := fun e => by
      have := s.inv b (by omega) (by omega)
      rw [e] at this; omega
    omega

/-- A point further on leads back to a point that is closed already. -/
def Doomed (n : Int) (q : Int → Int) (i : Int) (op : List Int) : Prop := ∃ c, i ≤ c ∧ c < n ∧ q c < i ∧ q c ∉ op

theorem Ideal.doom (h : Ideal q i (j :: t)) (h0 : 0 ≤ i) (h1 : q i = j) (h2 : j < i) (h3 : q j ≠ i) (hhi : q j < n) : Doomed n q (i + 1) t := by
  have hj := (h.mem j).1 (List.mem_cons_self ..)
  have hd : Desc j t := by cases h.desc with | cons _ h => exact h
  refine ⟨q j, by omega, hhi, ?_, ?_⟩
  · have := (h.inv j hj.1 hj.2.1).1; omega
  · have := (h.inv j hj.1 hj.2.1).1
    rw [this]
    intro hm
    have := hd.lt j hm
    omega

theorem Doomed.push (h : Doomed n q i op) (h1 : i < q i) : Doomed n q (i + 1) (i :: op) := by
  obtain ⟨c, a1, a2, a3, a4⟩ := h
  refine ⟨c, ?_, a2, by omega, ?_⟩
  · by_cases e : c = i
    · subst e; omega
    · omega
  · intro hm
    rcases List.mem_cons.1 hm with e | e
    · omega
    · exact a4 e
theorem Doomed.pop (h : Doomed n q i (j :: t)) (h1 : q i = j) : Doomed n q (i + 1) t := by
  obtain ⟨c, a1, a2, a3, a4⟩ := h
  refine ⟨c, ?_, a2, by omega, fun hm => a4 (List.mem_cons_of_mem _ hm)⟩
  by_cases e : c = i
  · subst e; exact absurd (h1 ▸ List.mem_cons_self ..) a4
  · omega
theorem Doomed.lt (h : Doomed n q i op) : i < n := by
  obtain ⟨c, a1, a2, a3, a4⟩ := h
  omega

theorem Ideal.finish (h : Ideal q n op) (lo : ∀ i, 0 ≤ i → i < n → 0 ≤ q i) (hi : ∀ i, 0 ≤ i → i < n → q i < n) : Sys n q where
  lo := lo
  hi := hi
  ne := fun i a b => (h.inv i a b).2
  inv := fun i a b => (h.inv i a b).1
  cr := fun a b a0 an ab bq => h.cr a b a0 ab bq (hi a a0 an)
theorem Ideal.empty (h : Ideal q n op) (hi : ∀ i, 0 ≤ i → i < n → q i < n) : op = [] := by
  cases op with
  | nil => rfl
  | cons j t =>
    have hj := (h.mem j).1 (List.mem_cons_self ..)
    have := hi j hj.1 hj.2.1
    omega

theorem Sys.ideal (s : Sys n q) (k : Nat) (hk : (k : Int) ≤ n) : ∃ op, Ideal q k op := by
  induction k with
  | zero => exact ⟨[], .start q⟩
  | succ k ih =>
    obtain ⟨op, h⟩ := ih (by omega)
    have h0 : (0 : Int) ≤ k := by omega
    have h1 : (k : Int) < n := by omega
    rw [show ((k + 1 : Nat) : Int) = (k : Int) + 1 by omega]
    by_cases hlt : (k : Int) < q k
    · exact ⟨_, h.push h0 hlt (s.inv _ h0 h1)⟩
    · have hgt : q k < k := by have := s.ne _ h0 h1; omega
      by_cases e : op.head? = some (q k)
      · cases op with
        | nil => cases e
        | cons j t =>
          have ej : j = q k := by simpa using e
          exact ⟨t, h.pop h0 ej.symm (by omega) (by rw [ej]; exact s.inv _ h0 h1) (fun b b0 b1 => s.lo b b0 (by omega))⟩
      · exact absurd s (h.fail_pop h0 h1 hgt e)
theorem Sys.even (s : Sys n q) (h : 0 ≤ n) : n % 2 = 0 := by
  obtain ⟨op, hi⟩ := s.ideal n.toNat (by omega)
  rw [show ((n.toNat : Nat) : Int) = n by omega] at hi
  have := hi.empty s.hi
  have hp := hi.par
  rw [this] at hp
  simp at hp
  omega

end Pl

/-! ### Words of my own -/
theorem w64 {x : Int} (h1 : -9223372036854775808 ≤ x) (h2 : x < 9223372036854775808) : wrap64 x = x := by unfold wrap64; omega
theorem ev_rs {α : Type} {g : Nat → Option α} {r : α} (K : Nat) (h : ∀ m, K ≤ m → g (m + 1) = some r) : ∃ K, ∀ k, K ≤ k → g k = some r := by
  refine ⟨K + 1, fun k hk => ?_⟩
  obtain ⟨m, rfl⟩ : ∃ m, k = m + 1 := ⟨k - 1, by omega⟩
  exact h m (by omega)
noncomputable def tf (P : Prop) : Bool := @decide P (Classical.propDecidable P)
theorem tf_t {P : Prop} (h : P) : tf P = true := by unfold tf; simp [h]
theorem tf_f {P : Prop} (h : ¬ P) : tf P = false := by unfold tf; simp [h]
theorem tf_iff {P : Prop} : tf P = true ↔ P := by unfold tf; simp
theorem tf_c {P Q : Prop} (h : P ↔ Q) : tf P = tf Q := by rw [propext h]
theorem tf_d {P : Prop} [Decidable P] : tf P = decide P := by
  by_cases h : P
  · rw [tf_t h]; simp [h]
  · rw [tf_f h]; simp [h]
theorem rd_def (l : List Int) (i : Int) : rd l i = l.getD i.toNat 0 := rfl
theorem rd_set (l : List Int) (i j v : Int) (hi : 0 ≤ i) (hl : i < l.length) (hj : 0 ≤ j) : rd (l.set i.toNat v) j = if j = i then v else rd l j := by
  unfold rd
  simp only [List.getD_eq_getElem?_getD, List.getElem?_set]
  by_cases e : j = i
  · subst e
    rw [if_pos rfl, if_pos rfl, if_pos (by omega)]; rfl
  · rw [if_neg (by omega), if_neg e]
theorem rd_get (l : List Int) (i : Nat) (h : i < l.length) : rd l i = l[i] := by
  unfold rd
  rw [Int.toNat_natCast, List.getD_eq_getElem?_getD, List.getElem?_eq_getElem h]; rfl
theorem rd_ext {a b : List Int} (hl : a.length = b.length) (h : ∀ j : Int, 0 ≤ j → j < a.length → rd a j = rd b j) : a = b := by
  refine List.ext_getElem hl fun i h1 h2 => ?_
  have := h i (by omega) (by omega)
  rwa [rd_get a i h1, rd_get b i h2] at this
theorem rd_mem (l : List Int) (i : Int) (h0 : 0 ≤ i) (h : i < l.length) : rd l i ∈ l := by
  have e := rd_get l i.toNat (by omega)
  rw [show ((i.toNat : Nat) : Int) = i by omega] at e
  rw [e]; exact List.getElem_mem _

/-! ### laws.eqIntS, laws.toIntS -/
theorem eqIntS_l (a b : List Int) (hl : a.length = b.length) (hn : a.length < 4611686018427387904) (d : Nat) : ∀ i : Int, 0 ≤ i → (a.length : Int) - i ≤ d →
    (∃ K, ∀ k, K ≤ k → laws_eqIntS.l0 k a b i = some (tf (∀ j : Int, i ≤ j → j < a.length → rd a j = rd b j))) := by
  induction d with
  | zero =>
    intro i h0 hd
    refine ev_rs 0 fun m _ => ?_
    simp (disch := omega) only [laws_eqIntS.l0, if_neg]
    rw [tf_t]
    intro j h1 h2; omega
  | succ d ih =>
    intro i h0 hd
    by_cases hlt : i < (a.length : Int)
    · obtain ⟨K, ih⟩ := ih (i + 1) (by omega) (by omega)
      by_cases he : rd a i = rd b i
      · refine ev_rs K fun m hm => ?_
        simp (disch := omega) only [laws_eqIntS.l0, if_pos, w64]
        rw [ih m hm]
        congr 1
        refine tf_c ⟨fun h j h1 h2 => ?_, fun h j h1 h2 => h j (by omega) h2⟩
        by_cases e : j = i
        · rw [e]; exact he
        · exact h j (by omega) h2
      · refine ev_rs 0 fun m hm => ?_
        simp (disch := omega) only [laws_eqIntS.l0, if_pos]
        first | rw [if_neg he, tf_f] | rw [tf_f]
        exact fun h => he (h i (Int.le_refl _) hlt)
    · refine ev_rs 0 fun m _ => ?_
      simp (disch := omega) only [laws_eqIntS.l0, if_neg]
      rw [tf_t]
      intro j h1 h2; omega
theorem eqIntS_any (a b : List Int) (hn : a.length < 4611686018427387904) : (∃ K, ∀ k, K ≤ k → laws_eqIntS.f k a b = some (decide (a = b))) := by
  by_cases hl : a.length = b.length
  · obtain ⟨K, h⟩ := eqIntS_l a b hl hn a.length 0 (by omega) (by omega)
    refine ⟨K, fun k hk => ?_⟩
    unfold laws_eqIntS.f
    rw [if_pos (by omega), h k hk, ← tf_d]
    congr 1
    exact tf_c ⟨fun h => rd_ext hl fun j => h j, fun h j _ _ => by rw [h]⟩
  · refine ⟨0, fun k hk => ?_⟩
    unfold laws_eqIntS.f
    rw [if_neg (by omega)]
    congr 1
    exact (decide_eq_false fun h => hl (by rw [h])).symm

theorem toIntS_l (a : List Int) (hn : a.length < 4611686018427387904) (d : Nat) : ∀ (i : Int) (x : List Int), 0 ≤ i → (a.length : Int) - i ≤ d → x.length = a.length →
    (∀ j : Int, 0 ≤ j → j < i → rd x j = rd a j) → (∃ K, ∀ k, K ≤ k → laws_toIntS.l0 k a x i = some (a)) := by
  induction d with
  | zero =>
    intro i x h0 hd hl hx
    refine ev_rs 0 fun m _ => ?_
    simp (disch := omega) only [laws_toIntS.l0, if_neg]
    rw [rd_ext hl fun j h1 h2 => hx j h1 (by omega)]
  | succ d ih =>
    intro i x h0 hd hl hx
    by_cases hlt : i < (a.length : Int)
    · obtain ⟨K, ih⟩ := ih (i + 1) (x.set i.toNat (rd a i)) (by omega) (by omega) (by simp [hl]) (fun j h1 h2 => by
        rw [rd_set x i j _ h0 (by omega) h1]
        by_cases e : j = i
        · rw [if_pos e, e]
        · rw [if_neg e]; exact hx j h1 (by omega))
      refine ev_rs K fun m hm => ?_
      simp (disch := omega) only [laws_toIntS.l0, if_pos, w64]
      exact ih m hm
    · refine ev_rs 0 fun m _ => ?_
      simp (disch := omega) only [laws_toIntS.l0, if_neg]
      rw [rd_ext hl fun j h1 h2 => hx j h1 (by omega)]
theorem toIntS_any (a : List Int) (hn : a.length ≤ 35184372088832) : (∃ K, ∀ k, K ≤ k → laws_toIntS.f k a = some (a)) := by
  obtain ⟨K, h⟩ := toIntS_l a (by omega) a.length 0 (List.replicate a.length 0) (by omega) (by omega) (by simp) (fun j h1 h2 => by omega)
  refine ⟨K, fun k hk => ?_⟩
  unfold laws_toIntS.f
  rw [if_pos (by omega), if_pos (by simpa using hn)]
  simpa using h k hk

/-! ### laws.markIntS, laws.heldIntS -/
/-- The numbers from a on stand in a list from a place on. -/
def Runs (l : List Int) (a i : Int) : Prop := ∀ j : Int, i ≤ j → j < l.length → rd l j = a + (j - i)
theorem markIntS_l (d : Nat) : ∀ (x : List Int) (a i : Int), 0 ≤ i → 0 ≤ a → a + (x.length - i) < 1152921504606846976 → i ≤ x.length → (x.length : Int) < 1152921504606846976 → (x.length : Int) - i ≤ d →
    ∃ y, (∃ K, ∀ k, K ≤ k → laws_markIntS.l0 k x a i = some ((a + (x.length - i), y))) ∧ y.length = x.length ∧ Runs y a i ∧ ∀ j : Int, 0 ≤ j → j < i → rd y j = rd x j := by
  induction d with
  | zero =>
    intro x a i h0 ha hb hi hn hd
    refine ⟨x, ev_rs 0 fun m _ => ?_, rfl, fun j h1 h2 => by omega, fun j _ _ => rfl⟩
    simp (disch := omega) only [laws_markIntS.l0, if_neg]
    rw [show a + ((x.length : Int) - i) = a by omega]
  | succ d ih =>
    intro x a i h0 ha hb hi hn hd
    by_cases hlt : i < (x.length : Int)
    · obtain ⟨y, ⟨K, ih⟩, hl, hr, hk⟩ := ih (x.set i.toNat a) (a + 1) (i + 1) (by omega) (by omega) (by simp; omega) (by simp; omega) (by simpa using hn) (by simp; omega)
      refine ⟨y, ev_rs K fun m hm => ?_, by simpa using hl, fun j h1 h2 => ?_, fun j h1 h2 => ?_⟩
      · simp (disch := omega) only [laws_markIntS.l0, if_pos, w64]
        rw [ih m hm]
        rw [List.length_set, show a + 1 + ((x.length : Int) - (i + 1)) = a + (x.length - i) by omega]
      · by_cases e : j = i
        · rw [hk j (by omega) (by omega), rd_set x i j _ h0 hlt (by omega), if_pos e]; omega
        · rw [hr j (by omega) h2]; omega
      · rw [hk j h1 (by omega), rd_set x i j _ h0 hlt h1, if_neg (by omega)]
    · refine ⟨x, ev_rs 0 fun m _ => ?_, rfl, fun j h1 h2 => by omega, fun j _ _ => rfl⟩
      simp (disch := omega) only [laws_markIntS.l0, if_neg]
      rw [show a + ((x.length : Int) - i) = a by omega]
theorem heldIntS_l (d : Nat) : ∀ (x : List Int) (a i : Int), 0 ≤ i → 0 ≤ a → a + (x.length - i) < 1152921504606846976 → i ≤ x.length → (x.length : Int) < 1152921504606846976 → (x.length : Int) - i ≤ d → Runs x a i →
    (∃ K, ∀ k, K ≤ k → laws_heldIntS.l0 k x a i = some (a + (x.length - i))) := by
  induction d with
  | zero =>
    intro x a i h0 ha hb hi hn hd hr
    refine ev_rs 0 fun m _ => ?_
    simp (disch := omega) only [laws_heldIntS.l0, if_neg]
    rw [show a + ((x.length : Int) - i) = a by omega]
  | succ d ih =>
    intro x a i h0 ha hb hi hn hd hr
    by_cases hlt : i < (x.length : Int)
    · obtain ⟨K, ih⟩ := ih x (a + 1) (i + 1) (by omega) (by omega) (by omega) (by omega) hn (by omega) (fun j h1 h2 => by rw [hr j (by omega) h2]; omega)
      refine ev_rs K fun m hm => ?_
      have he : rd x i = a := by rw [hr i (Int.le_refl _) hlt]; omega
      simp (disch := omega) only [laws_heldIntS.l0, if_pos, w64]
      rw [ih m hm]
      rw [show a + 1 + ((x.length : Int) - (i + 1)) = a + (x.length - i) by omega]
    · refine ev_rs 0 fun m _ => ?_
      simp (disch := omega) only [laws_heldIntS.l0, if_neg]
      rw [show a + ((x.length : Int) - i) = a by omega]
/-- What is marked is held. -/
theorem marks_any (x : List Int) (a : Int) (ha : 0 ≤ a) (hb : a + x.length < 1152921504606846976) :
    ∃ y, (∃ K, ∀ k, K ≤ k → laws_markIntS.f k x a = some ((a + x.length, y))) ∧ y.length = x.length ∧ (∃ K, ∀ k, K ≤ k → laws_heldIntS.f k y a = some (a + x.length)) := by
  obtain ⟨y, h, hl, hr, _⟩ := markIntS_l x.length x a 0 (by omega) ha (by omega) (by omega) (by omega) (by omega)
  refine ⟨y, ?_, hl, ?_⟩
  · simpa [laws_markIntS.f] using h
  · have := heldIntS_l y.length y a 0 (by omega) ha (by omega) (by omega) (by omega) (by omega) hr
    simpa [laws_heldIntS.f, hl] using this

theorem in_any (a lo hi : Int) : impl_in.f a lo hi = some (decide (lo ≤ a ∧ a ≤ hi)) := by
  unfold impl_in.f
  by_cases h : lo ≤ a <;> simp [h]
theorem l1In_any (a lo hi : Int) : spec_l1In.f a lo hi = some (decide (lo ≤ a ∧ a ≤ hi)) := by
  unfold spec_l1In.f
  by_cases h : lo ≤ a
  · rw [if_pos h]; simp [h]
  · rw [if_neg h]; simp [h]

/-! ### impl.isSystem, spec.ahGood: both tell whether a list is a system -/
def AllIn (n : Int) (q : Int → Int) (i : Int) : Prop := ∀ j : Int, i ≤ j → j < n → 0 ≤ q j ∧ q j < n ∧ q j ≠ j ∧ q (q j) = j
def NoCross (n : Int) (q : Int → Int) (i : Int) : Prop := ∀ a b, i ≤ a → a < n → a < b → b < q a → a ≤ q b ∧ q b ≤ q a
theorem sys_of {n : Int} {q : Int → Int} : Pl.Sys n q ↔ AllIn n q 0 ∧ NoCross n q 0 :=
  ⟨fun s => ⟨fun j h0 h1 => ⟨s.lo j h0 h1, s.hi j h0 h1, s.ne j h0 h1, s.inv j h0 h1⟩, s.cr⟩,
   fun ⟨h, c⟩ => ⟨fun j h0 h1 => (h j h0 h1).1, fun j h0 h1 => (h j h0 h1).2.1, fun j h0 h1 => (h j h0 h1).2.2.1, fun j h0 h1 => (h j h0 h1).2.2.2, c⟩⟩

theorem isSystem_l2 (l : List Int) (hn : l.length < 4611686018427387904) (a : Int) (ha : 0 ≤ a) (hal : a < l.length) (hA : AllIn l.length (rd l) 0)
    (h1 : (∃ K, ∀ k, K ≤ k → impl_isSystem.l1 k l l l.length (a + 1) = some (tf (NoCross l.length (rd l) (a + 1))))) (d : Nat) :
    ∀ b : Int, a < b → rd l a - b ≤ d → (∃ K, ∀ k, K ≤ k → impl_isSystem.l2 k l a (rd l a) b l l.length a = some (tf ((∀ b' : Int, b ≤ b' → b' < rd l a → a ≤ rd l b' ∧ rd l b' ≤ rd l a) ∧ NoCross l.length (rd l) (a + 1)))) := by
  have hq := hA a ha hal
  obtain ⟨K1, h1⟩ := h1
  have out : ∀ b : Int, a < b → ¬ b < rd l a → (∃ K, ∀ k, K ≤ k → impl_isSystem.l2 k l a (rd l a) b l l.length a = some (tf ((∀ b' : Int, b ≤ b' → b' < rd l a → a ≤ rd l b' ∧ rd l b' ≤ rd l a) ∧ NoCross l.length (rd l) (a + 1)))) := by
    intro b hb hlt
    refine ev_rs K1 fun m hm => ?_
    simp (disch := omega) only [impl_isSystem.l2, if_neg, w64]
    rw [h1 m hm]
    congr 1
    exact tf_c ⟨fun h => ⟨fun b' _ _ => by omega, h⟩, fun h => h.2⟩
  induction d with
  | zero =>
    intro b hb hd
    exact out b hb (by omega)
  | succ d ih =>
    intro b hb hd
    by_cases hlt : b < rd l a
    · obtain ⟨K, ih⟩ := ih (b + 1) (by omega) (by omega)
      by_cases he : a ≤ rd l b ∧ rd l b ≤ rd l a
      · refine ev_rs K fun m hm => ?_
        simp (disch := omega) only [impl_isSystem.l2, if_pos, w64, in_any, Option.bind_some]
        rw [decide_eq_true he]
        simp only [if_true]
        rw [ih m hm]
        congr 1
        refine tf_c ⟨fun h => ⟨fun b' h2 h3 => ?_, h.2⟩, fun h => ⟨fun b' h2 h3 => h.1 b' (by omega) h3, h.2⟩⟩
        by_cases e : b' = b
        · rw [e]; exact he
        · exact h.1 b' (by omega) h3
      · refine ev_rs 0 fun m hm => ?_
        simp (disch := omega) only [impl_isSystem.l2, if_pos, in_any, Option.bind_some]
        rw [decide_eq_false he, tf_f]
        · simp
        · exact fun h => he (h.1 b (Int.le_refl _) hlt)
    · exact out b hb hlt
theorem isSystem_l1 (l : List Int) (hn : l.length < 4611686018427387904) (hA : AllIn l.length (rd l) 0) (d : Nat) : ∀ a : Int, 0 ≤ a → (l.length : Int) - a ≤ d →
    (∃ K, ∀ k, K ≤ k → impl_isSystem.l1 k l l l.length a = some (tf (NoCross l.length (rd l) a))) := by
  have out : ∀ a : Int, ¬ a < l.length → (∃ K, ∀ k, K ≤ k → impl_isSystem.l1 k l l l.length a = some (tf (NoCross l.length (rd l) a))) := by
    intro a hlt
    refine ev_rs 0 fun m hm => ?_
    simp (disch := omega) only [impl_isSystem.l1, if_neg]
    rw [tf_t]
    intro a' b h1 h2; omega
  induction d with
  | zero => intro a h0 hd; exact out a (by omega)
  | succ d ih =>
    intro a h0 hd
    by_cases hlt : a < (l.length : Int)
    · have h1 := ih (a + 1) (by omega) (by omega)
      have hq := hA a h0 hlt
      obtain ⟨K, h2⟩ := isSystem_l2 l hn a h0 hlt hA h1 (rd l a - (a + 1)).toNat (a + 1) (by omega) (by omega)
      refine ev_rs K fun m hm => ?_
      simp (disch := omega) only [impl_isSystem.l1, if_pos, w64]
      rw [h2 m hm]
      congr 1
      refine tf_c ⟨fun h a' b h3 h4 h5 h6 => ?_, fun h => ⟨fun b' h3 h4 => h a b' (Int.le_refl _) hlt (by omega) h4, fun a' b h3 h4 h5 h6 => h a' b (by omega) h4 h5 h6⟩⟩
      by_cases e : a' = a
      · subst e; exact h.1 b (by omega) h6
      · exact h.2 a' b (by omega) h4 h5 h6
    · exact out a hlt
theorem isSystem_l0 (l : List Int) (hn : l.length < 4611686018427387904) (d : Nat) : ∀ i : Int, 0 ≤ i → (l.length : Int) - i ≤ d → (∀ j : Int, 0 ≤ j → j < i → 0 ≤ rd l j ∧ rd l j < l.length ∧ rd l j ≠ j ∧ rd l (rd l j) = j) →
    (∃ K, ∀ k, K ≤ k → impl_isSystem.l0 k l l l.length i = some (tf (AllIn l.length (rd l) i ∧ NoCross l.length (rd l) 0))) := by
  have out : ∀ i : Int, 0 ≤ i → ¬ i < l.length → (∀ j : Int, 0 ≤ j → j < i → 0 ≤ rd l j ∧ rd l j < l.length ∧ rd l j ≠ j ∧ rd l (rd l j) = j) → (∃ K, ∀ k, K ≤ k → impl_isSystem.l0 k l l l.length i = some (tf (AllIn l.length (rd l) i ∧ NoCross l.length (rd l) 0))) := by
    intro i h0 hlt hp
    obtain ⟨K, h1⟩ := isSystem_l1 l hn (fun j h1 h2 => hp j h1 (by omega)) l.length 0 (by omega) (by omega)
    refine ev_rs K fun m hm => ?_
    simp (disch := omega) only [impl_isSystem.l0, if_neg]
    rw [h1 m hm]
    congr 1
    exact tf_c ⟨fun h => ⟨fun j _ _ => by omega, h⟩, fun h => h.2⟩
  induction d with
  | zero => intro i h0 hd hp; exact out i h0 (by omega) hp
  | succ d ih =>
    intro i h0 hd hp
    by_cases hlt : i < (l.length : Int)
    · by_cases hr : 0 ≤ rd l i ∧ rd l i ≤ (l.length : Int) - 1
      · by_cases hs : rd l i = i
        · refine ev_rs 0 fun m hm => ?_
          simp (disch := omega) only [impl_isSystem.l0, if_pos, w64, in_any, Option.bind_some]
          rw [decide_eq_true hr, tf_f]
          · simp [hs]
          · exact fun h => (h.1 i (Int.le_refl _) hlt).2.2.1 hs
        · by_cases hi : rd l (rd l i) = i
          · obtain ⟨K, ih⟩ := ih (i + 1) (by omega) (by omega) (fun j h1 h2 => by
              by_cases e : j = i
              · subst e; exact ⟨by omega, by omega, hs, hi⟩
              · exact hp j h1 (by omega))
            refine ev_rs K fun m hm => ?_
            simp (disch := omega) only [impl_isSystem.l0, if_pos, if_neg, w64, in_any, Option.bind_some]
            rw [decide_eq_true hr, if_pos rfl, ih m hm]
            congr 1
            refine tf_c ⟨fun h => ⟨fun j h1 h2 => ?_, h.2⟩, fun h => ⟨fun j h1 h2 => h.1 j (by omega) h2, h.2⟩⟩
            by_cases e : j = i
            · subst e; exact ⟨by omega, by omega, hs, hi⟩
            · exact h.1 j (by omega) h2
          · refine ev_rs 0 fun m hm => ?_
            simp (disch := omega) only [impl_isSystem.l0, if_pos, if_neg, w64, in_any, Option.bind_some]
            rw [decide_eq_true hr, tf_f]
            · simp
            · exact fun h => hi (h.1 i (Int.le_refl _) hlt).2.2.2
      · refine ev_rs 0 fun m hm => ?_
        simp (disch := omega) only [impl_isSystem.l0, if_pos, w64, in_any, Option.bind_some]
        rw [decide_eq_false hr, tf_f]
        · simp
        · exact fun h => hr (by have := h.1 i (Int.le_refl _) hlt; omega)
    · exact out i h0 hlt hp
/-- Is a list a system of at most six arches? -/
noncomputable def sysB (l : List Int) : Bool := tf (l.length ≤ 12 ∧ Pl.Sys l.length (rd l))
theorem isSystem_any (l : List Int) (hn : l.length < 4611686018427387904) : (∃ K, ∀ k, K ≤ k → impl_isSystem.f k l = some (tf (Pl.Sys l.length (rd l)))) := by
  obtain ⟨K, h⟩ := isSystem_l0 l hn l.length 0 (by omega) (by omega) (fun j _ _ => by omega)
  refine ⟨K, fun k hk => ?_⟩
  unfold impl_isSystem.f
  rw [h k hk]
  exact congrArg _ (tf_c sys_of.symm)
theorem IsSystem_any (l : List Int) (hn : l.length < 4611686018427387904) : (∃ K, ∀ k, K ≤ k → impl_IsSystem.f k l = some (sysB l)) := by
  obtain ⟨K, h⟩ := isSystem_any l hn
  refine ⟨K, fun k hk => ?_⟩
  unfold impl_IsSystem.f sysB
  by_cases h12 : (l.length : Int) ≤ 12
  · rw [if_pos h12, h k hk]
    exact congrArg _ (tf_c ⟨fun h => ⟨by omega, h⟩, fun h => h.2⟩)
  · rw [if_neg h12, tf_f]
    exact fun h => h12 (by omega)
theorem l1All_l (l : List Int) (hn : l.length < 4611686018427387904) (lo hi : Int) (d : Nat) : ∀ i : Int, 0 ≤ i → (l.length : Int) - i ≤ d →
    (∃ K, ∀ k, K ≤ k → spec_l1All.l0 k lo hi l l.length i = some (tf (∀ j : Int, i ≤ j → j < l.length → lo ≤ rd l j ∧ rd l j ≤ hi))) := by
  have out : ∀ i : Int, ¬ i < l.length → (∃ K, ∀ k, K ≤ k → spec_l1All.l0 k lo hi l l.length i = some (tf (∀ j : Int, i ≤ j → j < l.length → lo ≤ rd l j ∧ rd l j ≤ hi))) := by
    intro i hlt
    refine ev_rs 0 fun m hm => ?_
    simp (disch := omega) only [spec_l1All.l0, if_neg]
    rw [tf_t]
    intro j h1 h2; omega
  induction d with
  | zero => intro i h0 hd; exact out i (by omega)
  | succ d ih =>
    intro i h0 hd
    by_cases hlt : i < (l.length : Int)
    · obtain ⟨K, ih⟩ := ih (i + 1) (by omega) (by omega)
      by_cases he : lo ≤ rd l i ∧ rd l i ≤ hi
      · refine ev_rs K fun m hm => ?_
        simp (disch := omega) only [spec_l1All.l0, if_pos, w64, l1In_any, Option.bind_some]
        rw [decide_eq_true he, if_pos rfl, ih m hm]
        congr 1
        refine tf_c ⟨fun h j h1 h2 => ?_, fun h j h1 h2 => h j (by omega) h2⟩
        by_cases e : j = i
        · rw [e]; exact he
        · exact h j (by omega) h2
      · refine ev_rs 0 fun m hm => ?_
        simp (disch := omega) only [spec_l1All.l0, if_pos, l1In_any, Option.bind_some]
        rw [decide_eq_false he, tf_f]
        · simp
        · exact fun h => he (h i (Int.le_refl _) hlt)
    · exact out i hlt
theorem l1All_any (l : List Int) (hn : l.length < 4611686018427387904) (lo hi : Int) : (∃ K, ∀ k, K ≤ k → spec_l1All.f k l lo hi = some (tf (∀ j : Int, 0 ≤ j → j < l.length → lo ≤ rd l j ∧ rd l j ≤ hi))) :=
  l1All_l l hn lo hi l.length 0 (by omega) (by omega)
theorem ahGood_l (l : List Int) (hn : l.length ≤ 12) (hR : ∀ j : Int, 0 ≤ j → j < l.length → 0 ≤ rd l j ∧ rd l j ≤ (l.length : Int) - 1) (d : Nat) : ∀ (i : Int) (op : List Int), 0 ≤ i → i ≤ l.length → (l.length : Int) - i ≤ d → (op.length : Int) ≤ i →
    Pl.Ideal (rd l) i op ∨ (Pl.Doomed l.length (rd l) i op ∧ ¬ Pl.Sys l.length (rd l)) →
    (∃ K, ∀ k, K ≤ k → spec_ahGood.l0 k l op l l.length i = some (tf (Pl.Sys l.length (rd l)))) := by
  have out : ∀ (i : Int) (op : List Int), i ≤ l.length → ¬ i < l.length → Pl.Ideal (rd l) i op ∨ (Pl.Doomed l.length (rd l) i op ∧ ¬ Pl.Sys l.length (rd l)) →
    (∃ K, ∀ k, K ≤ k → spec_ahGood.l0 k l op l l.length i = some (tf (Pl.Sys l.length (rd l)))) := by
    intro i op hi hlt h
    rcases h with h | h
    · have e : i = l.length := by omega
      subst e
      refine ev_rs 0 fun m hm => ?_
      simp (disch := omega) only [spec_ahGood.l0, if_neg]
      rw [tf_t (h.finish (fun j h0 h1 => (hR j h0 h1).1) (fun j h0 h1 => by have := hR j h0 h1; omega))]
    · have := h.1.lt; omega
  induction d with
  | zero => intro i op h0 hi hd hop h; exact out i op hi (by omega) h
  | succ d ih =>
    intro i op h0 hi hd hop h
    by_cases hlt : i < (l.length : Int)
    · have hr := hR i h0 hlt
      by_cases hgt : rd l i > i
      · by_cases he : rd l (rd l i) = i
        · -- an arch begins
          obtain ⟨K, ih⟩ := ih (i + 1) (i :: op) (by omega) (by omega) (by omega) (by simp; omega) (by
            rcases h with h | h
            · exact .inl (h.push h0 hgt he)
            · exact .inr ⟨h.1.push hgt, h.2⟩)
          refine ev_rs (K + 1) fun m hm => ?_
          obtain ⟨m, rfl⟩ : ∃ m', m = m' + 1 := ⟨m - 1, by omega⟩
          have hb : (rd l (rd l i) == i) = true := by simp [he]
          simp (disch := omega) only [spec_ahGood.l0, if_pos, w64]
          rw [hb]
          simp only [spec_ahGood.j2, if_true, Option.bind_some]
          rw [if_pos (by simp; omega), w64 (by omega) (by omega)]
          exact ih m (by omega)
        · have hb : (rd l (rd l i) == i) = false := by simp [he]
          refine ev_rs 1 fun m hm => ?_
          obtain ⟨m, rfl⟩ : ∃ m', m = m' + 1 := ⟨m - 1, by omega⟩
          simp (disch := omega) only [spec_ahGood.l0, if_pos, w64]
          rw [hb, tf_f (Pl.Ideal.fail_push he h0 hlt)]
          simp (disch := omega) only [spec_ahGood.j2, Bool.false_eq_true, if_false, if_neg]
      · by_cases hs : rd l i = i
        · refine ev_rs 1 fun m hm => ?_
          obtain ⟨m, rfl⟩ : ∃ m', m = m' + 1 := ⟨m - 1, by omega⟩
          simp (disch := omega) only [spec_ahGood.l0, if_pos, if_neg, w64]
          rw [tf_f (Pl.Ideal.fail_self hs h0 hlt)]
          simp (disch := omega) only [spec_ahGood.j2, Bool.false_eq_true, if_false, if_neg]
        · have hls : rd l i < i := by omega
          have stop : op.head? ≠ some (rd l i) → ¬ Pl.Sys l.length (rd l) := fun hh => by
            rcases h with h | h
            · exact h.fail_pop h0 hlt hls hh
            · exact h.2
          cases op with
          | nil =>
            refine ev_rs 1 fun m hm => ?_
            obtain ⟨m, rfl⟩ : ∃ m', m = m' + 1 := ⟨m - 1, by omega⟩
            simp (disch := omega) only [spec_ahGood.l0, if_pos, if_neg, w64]
            rw [tf_f (stop (by simp))]
            simp (disch := omega) only [spec_ahGood.j2, Bool.false_eq_true, if_false, if_pos]
            simp
          | cons b t =>
            have hd0 : rd (b :: t) 0 = b := rfl
            by_cases hbt : b = rd l i
            · obtain ⟨K, ih⟩ := ih (i + 1) t (by omega) (by omega) (by omega) (by simp at hop; omega) (by
                rcases h with h | h
                · by_cases he : rd l b = i
                  · exact .inl (h.pop h0 hbt.symm (by omega) he (fun b h1 h2 => (hR b h1 (by omega)).1))
                  · refine .inr ⟨h.doom h0 hbt.symm (by omega) he ?_, ?_⟩
                    · have := (hR b (by omega) (by omega)).2; omega
                    · intro s
                      have := s.inv i h0 hlt
                      rw [← hbt] at this; exact he this
                · exact .inr ⟨h.1.pop hbt.symm, h.2⟩)
              refine ev_rs (K + 1) fun m hm => ?_
              obtain ⟨m, rfl⟩ : ∃ m', m = m' + 1 := ⟨m - 1, by omega⟩
              simp (disch := omega) only [spec_ahGood.l0, if_pos, if_neg, w64]
              simp only [spec_ahGood.j2, Bool.false_eq_true, if_false]
              rw [if_pos hls, if_pos (by simp), if_pos (by simp), hd0, if_pos hbt, if_pos (by simp; omega), w64 (by omega) (by omega)]
              exact ih m (by omega)
            · refine ev_rs 1 fun m hm => ?_
              obtain ⟨m, rfl⟩ : ∃ m', m = m' + 1 := ⟨m - 1, by omega⟩
              simp (disch := omega) only [spec_ahGood.l0, if_pos, if_neg, w64]
              simp only [spec_ahGood.j2, Bool.false_eq_true, if_false]
              rw [if_pos hls, if_pos (by simp), if_pos (by simp), hd0, if_neg hbt, tf_f (stop (by simpa using hbt))]
    · exact out i op hi hlt h
theorem ahGood_any (l : List Int) (hn : l.length < 4611686018427387904) : (∃ K, ∀ k, K ≤ k → spec_ahGood.f k l = some (sysB l)) := by
  unfold sysB
  by_cases h2 : (l.length : Int) % 2 = 1
  · refine ev_rs 0 fun m hm => ?_
    unfold spec_ahGood.f
    rw [if_pos h2, tf_f]
    · simp [spec_ahGood.j0]
    · intro h
      have := h.2.even (by omega)
      omega
  · by_cases h12 : (l.length : Int) > 12
    · refine ev_rs 0 fun m hm => ?_
      unfold spec_ahGood.f
      rw [if_neg h2, if_pos h12, tf_f]
      · simp [spec_ahGood.j0]
      · intro h; omega
    · obtain ⟨K, h⟩ := l1All_any l hn 0 ((l.length : Int) - 1)
      by_cases hR : ∀ j : Int, 0 ≤ j → j < (l.length : Int) → 0 ≤ rd l j ∧ rd l j ≤ (l.length : Int) - 1
      · obtain ⟨K2, h3⟩ := ahGood_l l (by omega) hR l.length 0 [] (by omega) (by omega) (by omega) (by simp) (.inl (.start _))
        refine ev_rs (K + K2) fun m hm => ?_
        unfold spec_ahGood.f
        rw [if_neg h2, if_neg h12, w64 (by omega) (by omega), h (m + 1) (by omega), tf_t hR]
        simp only [Option.bind_some, Bool.not_true, spec_ahGood.j0, Bool.false_eq_true, if_false]
        rw [h3 m (by omega)]
        exact congrArg _ (tf_c ⟨fun h => ⟨by omega, h⟩, fun h => h.2⟩)
      · refine ev_rs K fun m hm => ?_
        unfold spec_ahGood.f
        rw [if_neg h2, if_neg h12, w64 (by omega) (by omega), h (m + 1) (by omega), tf_f hR, tf_f]
        · simp [spec_ahGood.j0]
        · intro s
          exact hR fun j h0 h1 => ⟨s.2.lo j h0 h1, by have := s.2.hi j h0 h1; omega⟩

/-! ### pairs: laws.szMeander, laws.toMeander, laws.eqMeander -/
theorem szInt_any (l : List Int) (a : Int) (ha : a ≤ 1048576) (h0 : 0 ≤ a) (hn : l.length < 4611686018427387904) : laws_szIntS.f l a = some (if a < l.length then -1 else a - l.length) := by
  unfold laws_szIntS.f
  rw [w64 (by omega) (by omega)]
  by_cases h : a < l.length
  · rw [if_pos h, if_pos (by omega)]
  · rw [if_neg h, if_neg (by omega)]
theorem szMeander_at (l m : List Int) (a : Int) (h0 : 0 ≤ a) (ha : a ≤ 1048576) (hl : l.length < 4611686018427387904) (hm : m.length < 4611686018427387904) :
    ∃ r, laws_szMeander.f l m a = some r ∧ (r < 0 ∨ (l.length + m.length ≤ a ∧ 0 ≤ r ∧ r ≤ a)) := by
  unfold laws_szMeander.f
  rw [szInt_any l _ (by omega) (by omega) hl, Option.bind_some]
  by_cases h1 : a < l.length
  · rw [if_pos h1]; exact ⟨-1, by simp, by omega⟩
  · rw [if_neg h1, if_neg (by omega), szInt_any m _ (by omega) (by omega) hm, Option.bind_some]
    by_cases h2 : a - l.length < m.length
    · rw [if_pos h2]; exact ⟨-1, by simp, by omega⟩
    · rw [if_neg h2, if_neg (by omega)]; exact ⟨_, rfl, by omega⟩
theorem szMeander_any (l m : List Int) (hl : l.length < 4611686018427387904) (hm : m.length < 4611686018427387904) :
    ∃ r, laws_szMeander.f l m 1048576 = some r ∧ (r < 0 ∨ (l.length + m.length ≤ 1048576 ∧ 0 ≤ r)) := by
  obtain ⟨r, h1, h2⟩ := szMeander_at l m 1048576 (by omega) (by omega) hl hm
  exact ⟨r, h1, by omega⟩
theorem toMeander_any (l m : List Int) (hl : l.length ≤ 35184372088832) (hm : m.length ≤ 35184372088832) : (∃ K, ∀ k, K ≤ k → laws_toMeander.f k l m = some ((l, m))) := by
  obtain ⟨K1, h1⟩ := toIntS_any l hl
  obtain ⟨K2, h2⟩ := toIntS_any m hm
  refine ⟨K1 + K2, fun k hk => ?_⟩
  simp (disch := omega) only [laws_toMeander.f, h1, h2, Option.bind_some]
theorem eqMeander_any (a b c d : List Int) (ha : a.length < 4611686018427387904) (hb : b.length < 4611686018427387904) : (∃ K, ∀ k, K ≤ k → laws_eqMeander.f k a b c d = some (decide (a = c ∧ b = d))) := by
  obtain ⟨K1, h1⟩ := eqIntS_any a c ha
  obtain ⟨K2, h2⟩ := eqIntS_any b d hb
  refine ⟨K1 + K2, fun k hk => ?_⟩
  simp (disch := omega) only [laws_eqMeander.f, h1, h2, Option.bind_some]
  by_cases e1 : a = c <;> by_cases e2 : b = d <;> simp [e1, e2]

/-! ### impl.IsPair, spec.mePair -/
noncomputable def pairB (l m : List Int) : Bool := sysB l && sysB m && decide (l.length = m.length)
theorem IsPair_any (l m : List Int) (hl : l.length < 4611686018427387904) (hm : m.length < 4611686018427387904) : (∃ K, ∀ k, K ≤ k → impl_IsPair.f k l m = some (pairB l m)) := by
  obtain ⟨K1, h1⟩ := IsSystem_any l hl
  obtain ⟨K2, h2⟩ := IsSystem_any m hm
  refine ⟨K1 + K2, fun k hk => ?_⟩
  simp (disch := omega) only [impl_IsPair.f, h1, h2, Option.bind_some, pairB]
  cases sysB l <;> cases sysB m <;> simp
  by_cases e : l.length = m.length
  · simp [e]
  · simp [e]; omega
theorem mePair_any (l m : List Int) (hl : l.length < 4611686018427387904) (hm : m.length < 4611686018427387904) : (∃ K, ∀ k, K ≤ k → spec_mePair.f k l m = some (pairB l m)) := by
  obtain ⟨K1, h1⟩ := ahGood_any l hl
  obtain ⟨K2, h2⟩ := ahGood_any m hm
  refine ⟨K1 + K2, fun k hk => ?_⟩
  simp (disch := omega) only [spec_mePair.f, h1, h2, Option.bind_some, pairB]
  cases sysB l <;> cases sysB m <;> simp
  by_cases e : l.length = m.length
  · simp [e]
  · simp [e]; omega

theorem markM1_any (l m : List Int) (a : Int) (ha : 0 ≤ a) (hb : a + l.length + m.length < 1152921504606846976) :
    ∃ y z, (∃ K, ∀ k, K ≤ k → laws_markMeander.f k l m a = some ((a + l.length + m.length, y, z))) := by
  obtain ⟨y, ⟨K1, h1⟩, hy, _⟩ := marks_any l a ha (by omega)
  obtain ⟨z, ⟨K3, h3⟩, hz, _⟩ := marks_any m (a + l.length) (by omega) (by omega)
  exact ⟨y, z, K1 + K3, fun k hk => by simp (disch := omega) only [laws_markMeander.f, h1, h3, Option.bind_some]⟩

/-! ### laws.markMeander, laws.heldMeander -/
theorem markM_any (l m : List Int) (a : Int) (ha : 0 ≤ a) (hb : a + l.length + m.length < 1152921504606846976) :
    ∃ y z, (∃ K, ∀ k, K ≤ k → laws_markMeander.f k l m a = some ((a + l.length + m.length, y, z))) ∧ y.length = l.length ∧ z.length = m.length ∧ (∃ K, ∀ k, K ≤ k → laws_heldMeander.f k y z a = some (a + l.length + m.length)) := by
  obtain ⟨y, ⟨K1, h1⟩, hy, ⟨K2, h2⟩⟩ := marks_any l a ha (by omega)
  obtain ⟨z, ⟨K3, h3⟩, hz, ⟨K4, h4⟩⟩ := marks_any m (a + l.length) (by omega) (by omega)
  refine ⟨y, z, ⟨K1 + K3, fun k hk => ?_⟩, hy, hz, ⟨K2 + K4, fun k hk => ?_⟩⟩
  · simp (disch := omega) only [laws_markMeander.f, h1, h3, Option.bind_some]
  · simp (disch := omega) only [laws_heldMeander.f, h2, h4, Option.bind_some, if_neg]

/-! ### impl.joined, spec.ahShift -/
def shiftL (l : List Int) (a : Int) : Nat → List Int → Int → List Int
  | 0, out, _ => out
  | d + 1, out, i => shiftL l a d (out ++ [wrap64 (rd l i + a)]) (i + 1)
theorem shiftL_length (l : List Int) (a : Int) (d : Nat) : ∀ out i, (shiftL l a d out i).length = out.length + d := by
  induction d with
  | zero => intro out i; rfl
  | succ d ih => intro out i; unfold shiftL; rw [ih]; simp; omega
theorem shiftL_app (l : List Int) (a : Int) (d : Nat) : ∀ (out : List Int) i, shiftL l a d out i = out ++ shiftL l a d [] i := by
  induction d with
  | zero => intro out i; simp [shiftL]
  | succ d ih => intro out i; unfold shiftL; rw [ih, ih ([] ++ _)]; simp
theorem joined_l (a l : List Int) (hl : l.length ≤ 1048576) (d : Nat) : ∀ (out : List Int) (i : Int), 0 ≤ i → (l.length : Int) = i + d → out.length + d ≤ 4194304 → (∃ K, ∀ k, K ≤ k → impl_joined.l0 k a out l l.length i = some (shiftL l a.length d out i)) := by
  induction d with
  | zero =>
    intro out i h0 hd ho
    refine ev_rs 0 fun m _ => ?_
    simp (disch := omega) only [impl_joined.l0, if_neg, shiftL]
  | succ d ih =>
    intro out i h0 hd ho
    obtain ⟨K, ih⟩ := ih (out ++ [wrap64 (rd l i + a.length)]) (i + 1) (by omega) (by omega) (by simp; omega)
    refine ev_rs K fun m hm => ?_
    simp only [impl_joined.l0, shiftL]
    rw [w64 (x := i + 1) (by omega) (by omega), if_pos (by omega), if_pos h0, if_pos (by omega), if_pos (by omega)]
    exact ih m hm
theorem ahShift_l (l : List Int) (a : Int) (hl : l.length ≤ 1048576) (d : Nat) : ∀ (out : List Int) (i : Int), 0 ≤ i → (l.length : Int) = i + d → out.length + d ≤ 4194304 → (∃ K, ∀ k, K ≤ k → spec_ahShift.l0 k a out l l.length i = some (shiftL l a d out i)) := by
  induction d with
  | zero =>
    intro out i h0 hd ho
    refine ev_rs 0 fun m _ => ?_
    simp (disch := omega) only [spec_ahShift.l0, if_neg, shiftL]
  | succ d ih =>
    intro out i h0 hd ho
    obtain ⟨K, ih⟩ := ih (out ++ [wrap64 (rd l i + a)]) (i + 1) (by omega) (by omega) (by simp; omega)
    refine ev_rs K fun m hm => ?_
    simp only [spec_ahShift.l0, shiftL]
    rw [w64 (x := i + 1) (by omega) (by omega), if_pos (by omega), if_pos h0, if_pos (by omega), if_pos (by omega)]
    exact ih m hm
def joinL (a b : List Int) : List Int := a ++ shiftL b a.length b.length [] 0
theorem joinL_length (a b : List Int) : (joinL a b).length = a.length + b.length := by unfold joinL; simp [shiftL_length]
theorem joined_any (a b : List Int) (ha : a.length ≤ 1048576) (hb : b.length ≤ 1048576) : (∃ K, ∀ k, K ≤ k → impl_joined.f k a b = some (joinL a b)) := by
  obtain ⟨K, h⟩ := joined_l a b hb b.length a 0 (by omega) (by omega) (by omega)
  refine ⟨K, fun k hk => ?_⟩
  unfold impl_joined.f slices_Clone_int_int.f joinL
  rw [← shiftL_app]
  simp only [Option.bind_some, List.nil_append]
  rw [if_pos (by simp; omega), Option.bind_some]
  exact h k hk
theorem ahShift_any (a : Int) (b : List Int) (hb : b.length ≤ 1048576) : (∃ K, ∀ k, K ≤ k → spec_ahShift.f k b a = some (shiftL b a b.length [] 0)) := by
  obtain ⟨K, h⟩ := ahShift_l b a hb b.length [] 0 (by omega) (by omega) (by simp; omega)
  exact ⟨K, fun k hk => h k hk⟩

noncomputable def joinR (a b : List Int) : List Int × Bool := if sysB a = true ∧ sysB b = true ∧ ¬ (a.length : Int) + b.length > 12 then (joinL a b, true) else ([], false)
theorem joinR_length (a b : List Int) : (joinR a b).1.length ≤ 12 := by
  unfold joinR
  split
  · simp only [joinL_length]; omega
  · simp
theorem specJoin_any (a b : List Int) (ha : a.length ≤ 1048576) (hb : b.length ≤ 1048576) : (∃ K, ∀ k, K ≤ k → spec_JoinSystems.f k a b = some (joinR a b)) := by
  obtain ⟨K1, h1⟩ := ahGood_any a (by omega)
  obtain ⟨K2, h2⟩ := ahGood_any b (by omega)
  obtain ⟨K3, h3⟩ := ahShift_any a.length b hb
  have hl := shiftL_length b a.length b.length [] 0
  refine ev_rs (K1 + K2 + K3) fun m hm => ?_
  simp (disch := omega) only [spec_JoinSystems.f, h1, h2, w64, Option.bind_some, joinR, spec_JoinSystems.j0]
  cases sysB a <;> cases sysB b <;> by_cases h : (a.length : Int) + b.length > 12 <;> simp [h]
  simp only [spec_l1Own.f, Option.bind_some, List.nil_append]
  rw [if_pos (by simp; omega), Option.bind_some, h3 m (by omega), Option.bind_some, if_pos (by simp at hl; omega)]
  rfl

theorem pairB_sys3 {l m : List Int} (h : pairB l m = true) : sysB l = true ∧ sysB m = true ∧ l.length = m.length := by
  simp only [pairB, Bool.and_eq_true, decide_eq_true_eq] at h
  exact ⟨h.1.1, h.1.2, h.2⟩
noncomputable def joinMR (l m a b : List Int) : List Int × List Int × Bool := if pairB l m = true ∧ pairB a b = true ∧ ¬ (l.length : Int) + a.length > 12 then (joinL l a, joinL m b, true) else ([], [], false)
theorem joinMR_length (l m a b : List Int) : (joinMR l m a b).1.length ≤ 12 ∧ (joinMR l m a b).2.1.length ≤ 12 := by
  unfold joinMR
  split
  · rename_i h
    have h1 := (pairB_sys3 h.1).2.2
    have h2 := (pairB_sys3 h.2.1).2.2
    simp only [joinL_length]
    omega
  · simp
theorem implJoinM_any (l m a b : List Int) (hl : l.length ≤ 1048576) (hm : m.length ≤ 1048576) (ha : a.length ≤ 1048576) (hb : b.length ≤ 1048576) : (∃ K, ∀ k, K ≤ k → impl_JoinMeanders.f k l m a b = some (joinMR l m a b)) := by
  obtain ⟨K1, h1⟩ := IsPair_any l m (by omega) (by omega)
  obtain ⟨K2, h2⟩ := IsPair_any a b (by omega) (by omega)
  obtain ⟨K3, h3⟩ := joined_any l a (by omega) (by omega)
  obtain ⟨K4, h4⟩ := joined_any m b (by omega) (by omega)
  refine ev_rs (K1 + K2 + K3 + K4) fun k hk => ?_
  simp (disch := omega) only [impl_JoinMeanders.f, impl_JoinMeanders.j0, h1, h2, h3, h4, w64, Option.bind_some, joinMR]
  cases pairB l m <;> cases pairB a b <;> by_cases h : (l.length : Int) + a.length > 12 <;> simp [h]
theorem specJoinM_any (l m a b : List Int) (hl : l.length ≤ 1048576) (hm : m.length ≤ 1048576) (ha : a.length ≤ 1048576) (hb : b.length ≤ 1048576) : (∃ K, ∀ k, K ≤ k → spec_JoinMeanders.f k l m a b = some (joinMR l m a b)) := by
  obtain ⟨K1, h1⟩ := mePair_any l m (by omega) (by omega)
  obtain ⟨K2, h2⟩ := mePair_any a b (by omega) (by omega)
  obtain ⟨K3, h3⟩ := specJoin_any l a (by omega) (by omega)
  obtain ⟨K4, h4⟩ := specJoin_any m b (by omega) (by omega)
  refine ev_rs (K1 + K2 + K3 + K4) fun k hk => ?_
  simp (disch := omega) only [spec_JoinMeanders.f, spec_JoinMeanders.j0, h1, h2, h3, h4, Option.bind_some, joinMR, joinR]
  cases hp : pairB l m
  · simp
  · cases hq : pairB a b
    · simp
    · obtain ⟨p1, p2, p3⟩ := pairB_sys3 hp
      obtain ⟨q1, q2, q3⟩ := pairB_sys3 hq
      rw [← p3, ← q3]
      by_cases h : (l.length : Int) + a.length > 12
      · simp [h]
      · simp [h, p1, p2, q1, q2]

theorem FnExactJoinMeanders : laws_FnExactJoinMeanders.Pure := by
  intro l m a b hx_l _ _ hx_m _ _ hx_a _ _ hx_b _ _
  unfold maxLen at hx_l hx_m hx_a hx_b
  obtain ⟨r_l, hr_l, hc_l⟩ := szMeander_at l m 1048576 (by omega) (by omega) (by omega) (by omega)
  by_cases h_l : r_l < 0
  · exact ⟨0, by simp [laws_FnExactJoinMeanders.f, hr_l, h_l]⟩
  · skip
    obtain ⟨r_a, hr_a, hc_a⟩ := szMeander_at a b r_l (by omega) (by omega) (by omega) (by omega)
    by_cases h_a : r_a < 0
    · exact ⟨0, by simp [laws_FnExactJoinMeanders.f, hr_l, h_l, hr_a, h_a]⟩
    · skip
      obtain ⟨KTl, t_l⟩ := toMeander_any l m (by omega) (by omega)
      obtain ⟨KEl, e_l⟩ := eqMeander_any l m l m (by omega) (by omega)
      obtain ⟨y_l, z_l, KMl, m_l⟩ := markM1_any l m (1) (by omega) (by omega)
      obtain ⟨KTa, t_a⟩ := toMeander_any a b (by omega) (by omega)
      obtain ⟨KEa, e_a⟩ := eqMeander_any a b a b (by omega) (by omega)
      obtain ⟨y_a, z_a, KMa, m_a⟩ := markM1_any a b (1 + l.length + m.length) (by omega) (by omega)
      obtain ⟨KI, hI⟩ := implJoinM_any l m a b (by omega) (by omega) (by omega) (by omega)
      obtain ⟨KS, hS⟩ := specJoinM_any l m a b (by omega) (by omega) (by omega) (by omega)
      have hp1 : ¬ (1 + l.length + m.length + a.length + b.length : Int) < 0 := by omega
      have hR := joinMR_length l m a b
      obtain ⟨KR, hE⟩ := eqMeander_any (joinMR l m a b).1 (joinMR l m a b).2.1 (joinMR l m a b).1 (joinMR l m a b).2.1 (by omega) (by omega)
      obtain ⟨zz, zu, ⟨KZ, hM⟩, _, _, ⟨KH, hH⟩⟩ := markM_any (joinMR l m a b).1 (joinMR l m a b).2.1 1 (by omega) (by omega)
      have hp2 : ¬ (1 : Int) + (joinMR l m a b).1.length + (joinMR l m a b).2.1.length < 0 := by omega
      refine ⟨KTl + KEl + KMl + KTa + KEa + KMa + KI + KS + KR + KZ + KH + 6, ?_⟩
      simp (disch := omega) only [laws_FnExactJoinMeanders.f, Bool.false_eq_true, if_false, if_neg, hr_l, hr_a, t_l, e_l, m_l, t_a, e_a, m_a, hI, hS, hp1, hp2, hE, hM, hH, Option.bind_some, decide_true, if_true, bne_self_eq_false, and_self]
      simp (disch := omega) only [laws_FnExactJoinMeanders.j0, Bool.false_eq_true, if_false, if_neg, hr_l, hr_a, t_l, e_l, m_l, t_a, e_a, m_a, hI, hS, hp1, hp2, hE, hM, hH, Option.bind_some, decide_true, if_true, bne_self_eq_false, and_self]
      simp (disch := omega) only [laws_FnExactJoinMeanders.j1, Bool.false_eq_true, if_false, if_neg, hr_l, hr_a, t_l, e_l, m_l, t_a, e_a, m_a, hI, hS, hp1, hp2, hE, hM, hH, Option.bind_some, decide_true, if_true, bne_self_eq_false, and_self]
      simp (disch := omega) only [laws_FnExactJoinMeanders.j2, Bool.false_eq_true, if_false, if_neg, hr_l, hr_a, t_l, e_l, m_l, t_a, e_a, m_a, hI, hS, hp1, hp2, hE, hM, hH, Option.bind_some, decide_true, if_true, bne_self_eq_false, and_self]

end Go.Proofs.Ytakdhnhncmkigaa.Pure
