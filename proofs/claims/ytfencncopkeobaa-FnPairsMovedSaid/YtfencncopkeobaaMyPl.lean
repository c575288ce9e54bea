/- Plain mathematics of arch systems, with no program in it: what the reference's stack knows, and that every system of at most six arches stands in a written list. Conditions: as each statement bears them. -/
namespace Go.Proofs.Ytfencncopkeobaa
set_option linter.unusedVariables false
set_option linter.unusedSimpArgs false
namespace Pl
structure Sys (n : Int) (q : Int → Int) : Prop where
 lo : ∀ i, 0 ≤ i → i < n → 0 ≤ q i
 hi : ∀ i, 0 ≤ i → i < n → q i < n
 ne : ∀ i, 0 ≤ i → i < n → q i ≠ i
 inv : ∀ i, 0 ≤ i → i < n → q (q i) = i
 cr : ∀ a b, 0 ≤ a → a < n → a < b → b < q a → a ≤ q b ∧ q b ≤ q a
inductive Desc : Int → List Int → Prop
 | nil (i : Int) : Desc i []
 | cons {i j : Int} {t : List Int} : j < i → Desc j t → Desc i (j :: t)
theorem Desc.lt {i : Int} {l : List Int} (h : Desc i l) : ∀ a ∈ l, a < i := by
 induction h with
 | nil => intro a h; cases h
 | cons hj _ ih =>
  intro a ha
  rcases List.mem_cons.1 ha with rfl | ha
  ·exact hj
  ·have := ih a ha; omega
theorem Desc.mono {i j : Int} {l : List Int} (h : Desc i l) (hij : i ≤ j) : Desc j l := by
 cases h with
 | nil => exact .nil _
 | cons h1 h2 => exact .cons (by omega) h2
structure Ideal (q : Int → Int) (i : Int) (op : List Int) : Prop where
 desc : Desc i op
 mem : ∀ a, a ∈ op ↔ 0 ≤ a ∧ a < i ∧ i ≤ q a
 inv : ∀ a, 0 ≤ a → a < i → q (q a) = a ∧ q a ≠ a
 cr : ∀ a b, 0 ≤ a → a < b → b < q a → q a < i → a ≤ q b ∧ q b ≤ q a
 par : op.length % 2 = i.toNat % 2
theorem Ideal.start (q : Int → Int) : Ideal q 0 [] where
 desc := .nil _
 mem := fun a => ⟨fun h => (by cases h), fun h => (by omega)⟩
 inv := fun a _ _ => by omega
 cr := fun a b _ _ _ _ => by omega
 par := rfl
variable {q : Int → Int} {i j n : Int} {op t : List Int}
theorem Ideal.push (h : Ideal q i op) (h0 : 0 ≤ i) (h1 : i < q i) (h2 : q (q i) = i) : Ideal q (i + 1) (i :: op) where
 desc := .cons (by omega) h.desc
 mem := fun a => by
  rw [List.mem_cons, h.mem]
  constructor
  ·rintro (rfl | ⟨a0, a1, a2⟩)
   ·omega
   ·refine ⟨a0, by omega, ?_⟩
    have : q a ≠ i := fun e => by
     have := (h.inv a a0 a1).1
     rw [e] at this; omega
    omega
  ·rintro ⟨a0, a1, a2⟩
   by_cases e : a = i
   ·exact .inl e
   ·exact .inr ⟨a0, by omega, by omega⟩
 inv := fun a a0 a1 => by
  by_cases e : a = i
  ·subst e; exact ⟨h2, by omega⟩
  ·exact h.inv a a0 (by omega)
 cr := fun a b a0 ab bq qi => by
  by_cases e : q a = i
  ·have hai : a < i := by omega
   have := (h.inv a a0 hai).1
   rw [e] at this; omega
  ·exact h.cr a b a0 ab bq (by omega)
 par := by have := h.par; rw [List.length_cons]; omega
theorem Ideal.pop (h : Ideal q i (j :: t)) (h0 : 0 ≤ i) (h1 : q i = j) (h2 : j < i) (h3 : q j = i) (hlo : ∀ b, 0 ≤ b → b < i → 0 ≤ q b) : Ideal q (i + 1) t := by
 have hj := (h.mem j).1 (List.mem_cons_self ..)
 have hd : Desc j t := by cases h.desc with | cons _ h => exact h
 refine ⟨hd.mono (by omega), fun a => ?_, fun a a0 a1 => ?_, fun a b a0 ab bq qi => ?_, ?_⟩
 ·have hm := h.mem a
  rw [List.mem_cons] at hm
  constructor
  ·intro ha
   have h4 := hm.1 (.inr ha)
   have := hd.lt a ha
   have : q a ≠ i := fun e => by
    have := (h.inv a h4.1 h4.2.1).1
    rw [e] at this; omega
   omega
  ·rintro ⟨a0, a1, a2⟩
   have : a ≠ i := fun e => by subst e; omega
   rcases hm.2 ⟨a0, by omega, by omega⟩ with rfl | ha
   ·omega
   ·exact ha
 ·by_cases e : a = i
  ·subst e; rw [h1]; exact ⟨h3, by omega⟩
  ·exact h.inv a a0 (by omega)
 ·by_cases e : q a = i
  ·have hai : a = j := by
    have h4 := (h.inv a a0 (by omega)).1
    rw [e] at h4; omega
   subst hai
   have hm := h.mem b
   have hqb : q b < i := by
    by_cases hb : i ≤ q b
    ·have h5 := hm.2 ⟨by omega, by omega, hb⟩
     rcases List.mem_cons.1 h5 with rfl | h6
     ·omega
     ·have := hd.lt b h6; omega
    ·omega
   refine ⟨?_, by omega⟩
   by_cases hlt : q b < a
   ·have hb := h.inv b (by omega) (by omega)
    have h7 := hlo b (by omega) (by omega)
    have h8 := h.cr (q b) a h7 hlt (by omega) (by omega)
    omega
   ·omega
  ·exact h.cr a b a0 ab bq (by omega)
 ·have := h.par; rw [List.length_cons] at this; omega
theorem Ideal.fail_self (h : q i = i) (h0 : 0 ≤ i) (h1 : i < n) : ¬ Sys n q := fun s => s.ne i h0 h1 h
theorem Ideal.fail_push (h : q (q i) ≠ i) (h0 : 0 ≤ i) (h1 : i < n) : ¬ Sys n q := fun s => h (s.inv i h0 h1)
theorem Ideal.fail_pop (h : Ideal q i op) (h0 : 0 ≤ i) (h1 : i < n) (h2 : q i < i) (h3 : op.head? ≠ some (q i)) : ¬ Sys n q := by
 intro s
 have h4 := s.inv i h0 h1
 have h5 := s.lo i h0 h1
 have hm := (h.mem (q i)).2 ⟨h5, h2, by omega⟩
 cases op with
 | nil => cases hm
 | cons b t =>
  have hb := (h.mem b).1 (List.mem_cons_self ..)
  have hne : b ≠ q i := fun e => h3 (by rw [e]; rfl)
  have hmt : q i ∈ t := by
   rcases List.mem_cons.1 hm with e | e
   ·exact absurd e.symm hne
   ·exact e
  have hlt : q i < b := by
   cases h.desc with
   | cons _ hd => exact hd.lt _ hmt
  have h6 := s.cr (q i) b h5 (s.hi i h0 h1) hlt (by omega)
  have h7 : q b ≠ i := fun e => by
   have := s.inv b (by omega) (by omega)
   rw [e] at this; omega
  omega
def Doomed (n : Int) (q : Int → Int) (i : Int) (op : List Int) : Prop := ∃ c, i ≤ c ∧ c < n ∧ q c < i ∧ q c ∉ op
theorem Ideal.doom (h : Ideal q i (j :: t)) (h0 : 0 ≤ i) (h1 : q i = j) (h2 : j < i) (h3 : q j ≠ i) (hhi : q j < n) : Doomed n q (i + 1) t := by
 have hj := (h.mem j).1 (List.mem_cons_self ..)
 have hd : Desc j t := by cases h.desc with | cons _ h => exact h
 refine ⟨q j, by omega, hhi, ?_, ?_⟩
 ·have := (h.inv j hj.1 hj.2.1).1; omega
 ·have := (h.inv j hj.1 hj.2.1).1
  rw [this]
  intro hm
  have := hd.lt j hm
  omega
theorem Doomed.push (h : Doomed n q i op) (h1 : i < q i) : Doomed n q (i + 1) (i :: op) := by
 obtain ⟨c, a1, a2, a3, a4⟩ := h
 refine ⟨c, ?_, a2, by omega, ?_⟩
 ·by_cases e : c = i
  ·subst e; omega
  ·omega
 ·intro hm
  rcases List.mem_cons.1 hm with e | e
  ·omega
  ·exact a4 e
theorem Doomed.pop (h : Doomed n q i (j :: t)) (h1 : q i = j) : Doomed n q (i + 1) t := by
 obtain ⟨c, a1, a2, a3, a4⟩ := h
 refine ⟨c, ?_, a2, by omega, fun hm => a4 (List.mem_cons_of_mem _ hm)⟩
 by_cases e : c = i
 ·subst e; exact absurd (h1 ▸ List.mem_cons_self ..) a4
 ·omega
theorem Doomed.lt (h : Doomed n q i op) : i < n := by
 obtain ⟨c, a1, a2, a3, a4⟩ := h
 omega
theorem Ideal.finish (h : Ideal q n op) (lo : ∀ i, 0 ≤ i → i < n → 0 ≤ q i) (hi : ∀ i, 0 ≤ i → i < n → q i < n) : Sys n q where
 lo := lo
 hi := hi
 ne := fun i a b => (h.inv i a b).2
 inv := fun i a b => (h.inv i a b).1
 cr := fun a b a0 an ab bq => h.cr a b a0 ab bq (hi a a0 an)
theorem Ideal.empty (h : Ideal q n op) (hi : ∀ i, 0 ≤ i → i < n → q i < n) : op = [] := by
 cases op with
 | nil => rfl
 | cons j t =>
  have hj := (h.mem j).1 (List.mem_cons_self ..)
  have := hi j hj.1 hj.2.1
  omega
theorem Sys.ideal (s : Sys n q) (k : Nat) (hk : (k : Int) ≤ n) : ∃ op, Ideal q k op := by
 induction k with
 | zero => exact ⟨[], .start q⟩
 | succ k ih =>
  obtain ⟨op, h⟩ := ih (by omega)
  have h0 : (0 : Int) ≤ k := by omega
  have h1 : (k : Int) < n := by omega
  rw [show ((k + 1 : Nat) : Int) = (k : Int) + 1 by omega]
  by_cases hlt : (k : Int) < q k
  ·exact ⟨_, h.push h0 hlt (s.inv _ h0 h1)⟩
  ·have hgt : q k < k := by have := s.ne _ h0 h1; omega
   by_cases e : op.head? = some (q k)
   ·cases op with
    | nil => cases e
    | cons j t =>
     have ej : j = q k := by simpa using e
     exact ⟨t, h.pop h0 ej.symm (by omega) (by rw [ej]; exact s.inv _ h0 h1) (fun b b0 b1 => s.lo b b0 (by omega))⟩
   ·exact absurd s (h.fail_pop h0 h1 hgt e)
theorem Sys.even (s : Sys n q) (h : 0 ≤ n) : n % 2 = 0 := by
 obtain ⟨op, hi⟩ := s.ideal n.toNat (by omega)
 rw [show ((n.toNat : Nat) : Int) = n by omega] at hi
 have := hi.empty s.hi
 have hp := hi.par
 rw [this] at hp
 simp at hp
 omega
end Pl
namespace Pl
def sysList : Nat → List (List Int)
 | 0 => [[]]
 | 1 => [[1, 0]]
 | 2 => [[1, 0, 3, 2], [3, 2, 1, 0]]
 | 3 => [[1, 0, 3, 2, 5, 4], [1, 0, 5, 4, 3, 2], [3, 2, 1, 0, 5, 4], [5, 2, 1, 4, 3, 0], [5, 4, 3, 2, 1, 0]]
 | 4 => [[1, 0, 3, 2, 5, 4, 7, 6], [1, 0, 3, 2, 7, 6, 5, 4], [1, 0, 5, 4, 3, 2, 7, 6], [1, 0, 7, 4, 3, 6, 5, 2], [1, 0, 7, 6, 5, 4, 3, 2], [3, 2, 1, 0, 5, 4, 7, 6], [3, 2, 1, 0, 7, 6, 5, 4], [5, 2, 1, 4, 3, 0, 7, 6], [5, 4, 3, 2, 1, 0, 7, 6], [7, 2, 1, 4, 3, 6, 5, 0], [7, 2, 1, 6, 5, 4, 3, 0], [7, 4, 3, 2, 1, 6, 5, 0], [7, 6, 3, 2, 5, 4, 1, 0], [7, 6, 5, 4, 3, 2, 1, 0]]
 | 5 => [[1, 0, 3, 2, 5, 4, 7, 6, 9, 8], [1, 0, 3, 2, 5, 4, 9, 8, 7, 6], [1, 0, 3, 2, 7, 6, 5, 4, 9, 8], [1, 0, 3, 2, 9, 6, 5, 8, 7, 4], [1, 0, 3, 2, 9, 8, 7, 6, 5, 4], [1, 0, 5, 4, 3, 2, 7, 6, 9, 8], [1, 0, 5, 4, 3, 2, 9, 8, 7, 6], [1, 0, 7, 4, 3, 6, 5, 2, 9, 8], [1, 0, 7, 6, 5, 4, 3, 2, 9, 8], [1, 0, 9, 4, 3, 6, 5, 8, 7, 2], [1, 0, 9, 4, 3, 8, 7, 6, 5, 2], [1, 0, 9, 6, 5, 4, 3, 8, 7, 2], [1, 0, 9, 8, 5, 4, 7, 6, 3, 2], [1, 0, 9, 8, 7, 6, 5, 4, 3, 2], [3, 2, 1, 0, 5, 4, 7, 6, 9, 8], [3, 2, 1, 0, 5, 4, 9, 8, 7, 6], [3, 2, 1, 0, 7, 6, 5, 4, 9, 8], [3, 2, 1, 0, 9, 6, 5, 8, 7, 4], [3, 2, 1, 0, 9, 8, 7, 6, 5, 4], [5, 2, 1, 4, 3, 0, 7, 6, 9, 8], [5, 2, 1, 4, 3, 0, 9, 8, 7, 6], [5, 4, 3, 2, 1, 0, 7, 6, 9, 8], [5, 4, 3, 2, 1, 0, 9, 8, 7, 6], [7, 2, 1, 4, 3, 6, 5, 0, 9, 8], [7, 2, 1, 6, 5, 4, 3, 0, 9, 8], [7, 4, 3, 2, 1, 6, 5, 0, 9, 8], [7, 6, 3, 2, 5, 4, 1, 0, 9, 8], [7, 6, 5, 4, 3, 2, 1, 0, 9, 8], [9, 2, 1, 4, 3, 6, 5, 8, 7, 0], [9, 2, 1, 4, 3, 8, 7, 6, 5, 0], [9, 2, 1, 6, 5, 4, 3, 8, 7, 0], [9, 2, 1, 8, 5, 4, 7, 6, 3, 0], [9, 2, 1, 8, 7, 6, 5, 4, 3, 0], [9, 4, 3, 2, 1, 6, 5, 8, 7, 0], [9, 4, 3, 2, 1, 8, 7, 6, 5, 0], [9, 6, 3, 2, 5, 4, 1, 8, 7, 0], [9, 6, 5, 4, 3, 2, 1, 8, 7, 0], [9, 8, 3, 2, 5, 4, 7, 6, 1, 0], [9, 8, 3, 2, 7, 6, 5, 4, 1, 0], [9, 8, 5, 4, 3, 2, 7, 6, 1, 0], [9, 8, 7, 4, 3, 6, 5, 2, 1, 0], [9, 8, 7, 6, 5, 4, 3, 2, 1, 0]]
 | 6 => [[1, 0, 3, 2, 5, 4, 7, 6, 9, 8, 11, 10], [1, 0, 3, 2, 5, 4, 7, 6, 11, 10, 9, 8], [1, 0, 3, 2, 5, 4, 9, 8, 7, 6, 11, 10], [1, 0, 3, 2, 5, 4, 11, 8, 7, 10, 9, 6], [1, 0, 3, 2, 5, 4, 11, 10, 9, 8, 7, 6], [1, 0, 3, 2, 7, 6, 5, 4, 9, 8, 11, 10], [1, 0, 3, 2, 7, 6, 5, 4, 11, 10, 9, 8], [1, 0, 3, 2, 9, 6, 5, 8, 7, 4, 11, 10], [1, 0, 3, 2, 9, 8, 7, 6, 5, 4, 11, 10], [1, 0, 3, 2, 11, 6, 5, 8, 7, 10, 9, 4], [1, 0, 3, 2, 11, 6, 5, 10, 9, 8, 7, 4], [1, 0, 3, 2, 11, 8, 7, 6, 5, 10, 9, 4], [1, 0, 3, 2, 11, 10, 7, 6, 9, 8, 5, 4], [1, 0, 3, 2, 11, 10, 9, 8, 7, 6, 5, 4], [1, 0, 5, 4, 3, 2, 7, 6, 9, 8, 11, 10], [1, 0, 5, 4, 3, 2, 7, 6, 11, 10, 9, 8], [1, 0, 5, 4, 3, 2, 9, 8, 7, 6, 11, 10], [1, 0, 5, 4, 3, 2, 11, 8, 7, 10, 9, 6], [1, 0, 5, 4, 3, 2, 11, 10, 9, 8, 7, 6], [1, 0, 7, 4, 3, 6, 5, 2, 9, 8, 11, 10], [1, 0, 7, 4, 3, 6, 5, 2, 11, 10, 9, 8], [1, 0, 7, 6, 5, 4, 3, 2, 9, 8, 11, 10], [1, 0, 7, 6, 5, 4, 3, 2, 11, 10, 9, 8], [1, 0, 9, 4, 3, 6, 5, 8, 7, 2, 11, 10], [1, 0, 9, 4, 3, 8, 7, 6, 5, 2, 11, 10], [1, 0, 9, 6, 5, 4, 3, 8, 7, 2, 11, 10], [1, 0, 9, 8, 5, 4, 7, 6, 3, 2, 11, 10], [1, 0, 9, 8, 7, 6, 5, 4, 3, 2, 11, 10], [1, 0, 11, 4, 3, 6, 5, 8, 7, 10, 9, 2], [1, 0, 11, 4, 3, 6, 5, 10, 9, 8, 7, 2], [1, 0, 11, 4, 3, 8, 7, 6, 5, 10, 9, 2], [1, 0, 11, 4, 3, 10, 7, 6, 9, 8, 5, 2], [1, 0, 11, 4, 3, 10, 9, 8, 7, 6, 5, 2], [1, 0, 11, 6, 5, 4, 3, 8, 7, 10, 9, 2], [1, 0, 11, 6, 5, 4, 3, 10, 9, 8, 7, 2], [1, 0, 11, 8, 5, 4, 7, 6, 3, 10, 9, 2], [1, 0, 11, 8, 7, 6, 5, 4, 3, 10, 9, 2], [1, 0, 11, 10, 5, 4, 7, 6, 9, 8, 3, 2], [1, 0, 11, 10, 5, 4, 9, 8, 7, 6, 3, 2], [1, 0, 11, 10, 7, 6, 5, 4, 9, 8, 3, 2], [1, 0, 11, 10, 9, 6, 5, 8, 7, 4, 3, 2], [1, 0, 11, 10, 9, 8, 7, 6, 5, 4, 3, 2], [3, 2, 1, 0, 5, 4, 7, 6, 9, 8, 11, 10], [3, 2, 1, 0, 5, 4, 7, 6, 11, 10, 9, 8], [3, 2, 1, 0, 5, 4, 9, 8, 7, 6, 11, 10], [3, 2, 1, 0, 5, 4, 11, 8, 7, 10, 9, 6], [3, 2, 1, 0, 5, 4, 11, 10, 9, 8, 7, 6], [3, 2, 1, 0, 7, 6, 5, 4, 9, 8, 11, 10], [3, 2, 1, 0, 7, 6, 5, 4, 11, 10, 9, 8], [3, 2, 1, 0, 9, 6, 5, 8, 7, 4, 11, 10], [3, 2, 1, 0, 9, 8, 7, 6, 5, 4, 11, 10], [3, 2, 1, 0, 11, 6, 5, 8, 7, 10, 9, 4], [3, 2, 1, 0, 11, 6, 5, 10, 9, 8, 7, 4], [3, 2, 1, 0, 11, 8, 7, 6, 5, 10, 9, 4], [3, 2, 1, 0, 11, 10, 7, 6, 9, 8, 5, 4], [3, 2, 1, 0, 11, 10, 9, 8, 7, 6, 5, 4], [5, 2, 1, 4, 3, 0, 7, 6, 9, 8, 11, 10], [5, 2, 1, 4, 3, 0, 7, 6, 11, 10, 9, 8], [5, 2, 1, 4, 3, 0, 9, 8, 7, 6, 11, 10], [5, 2, 1, 4, 3, 0, 11, 8, 7, 10, 9, 6], [5, 2, 1, 4, 3, 0, 11, 10, 9, 8, 7, 6], [5, 4, 3, 2, 1, 0, 7, 6, 9, 8, 11, 10], [5, 4, 3, 2, 1, 0, 7, 6, 11, 10, 9, 8], [5, 4, 3, 2, 1, 0, 9, 8, 7, 6, 11, 10], [5, 4, 3, 2, 1, 0, 11, 8, 7, 10, 9, 6], [5, 4, 3, 2, 1, 0, 11, 10, 9, 8, 7, 6], [7, 2, 1, 4, 3, 6, 5, 0, 9, 8, 11, 10], [7, 2, 1, 4, 3, 6, 5, 0, 11, 10, 9, 8], [7, 2, 1, 6, 5, 4, 3, 0, 9, 8, 11, 10], [7, 2, 1, 6, 5, 4, 3, 0, 11, 10, 9, 8], [7, 4, 3, 2, 1, 6, 5, 0, 9, 8, 11, 10], [7, 4, 3, 2, 1, 6, 5, 0, 11, 10, 9, 8], [7, 6, 3, 2, 5, 4, 1, 0, 9, 8, 11, 10], [7, 6, 3, 2, 5, 4, 1, 0, 11, 10, 9, 8], [7, 6, 5, 4, 3, 2, 1, 0, 9, 8, 11, 10], [7, 6, 5, 4, 3, 2, 1, 0, 11, 10, 9, 8], [9, 2, 1, 4, 3, 6, 5, 8, 7, 0, 11, 10], [9, 2, 1, 4, 3, 8, 7, 6, 5, 0, 11, 10], [9, 2, 1, 6, 5, 4, 3, 8, 7, 0, 11, 10], [9, 2, 1, 8, 5, 4, 7, 6, 3, 0, 11, 10], [9, 2, 1, 8, 7, 6, 5, 4, 3, 0, 11, 10], [9, 4, 3, 2, 1, 6, 5, 8, 7, 0, 11, 10], [9, 4, 3, 2, 1, 8, 7, 6, 5, 0, 11, 10], [9, 6, 3, 2, 5, 4, 1, 8, 7, 0, 11, 10], [9, 6, 5, 4, 3, 2, 1, 8, 7, 0, 11, 10], [9, 8, 3, 2, 5, 4, 7, 6, 1, 0, 11, 10], [9, 8, 3, 2, 7, 6, 5, 4, 1, 0, 11, 10], [9, 8, 5, 4, 3, 2, 7, 6, 1, 0, 11, 10], [9, 8, 7, 4, 3, 6, 5, 2, 1, 0, 11, 10], [9, 8, 7, 6, 5, 4, 3, 2, 1, 0, 11, 10], [11, 2, 1, 4, 3, 6, 5, 8, 7, 10, 9, 0], [11, 2, 1, 4, 3, 6, 5, 10, 9, 8, 7, 0], [11, 2, 1, 4, 3, 8, 7, 6, 5, 10, 9, 0], [11, 2, 1, 4, 3, 10, 7, 6, 9, 8, 5, 0], [11, 2, 1, 4, 3, 10, 9, 8, 7, 6, 5, 0], [11, 2, 1, 6, 5, 4, 3, 8, 7, 10, 9, 0], [11, 2, 1, 6, 5, 4, 3, 10, 9, 8, 7, 0], [11, 2, 1, 8, 5, 4, 7, 6, 3, 10, 9, 0], [11, 2, 1, 8, 7, 6, 5, 4, 3, 10, 9, 0], [11, 2, 1, 10, 5, 4, 7, 6, 9, 8, 3, 0], [11, 2, 1, 10, 5, 4, 9, 8, 7, 6, 3, 0], [11, 2, 1, 10, 7, 6, 5, 4, 9, 8, 3, 0], [11, 2, 1, 10, 9, 6, 5, 8, 7, 4, 3, 0], [11, 2, 1, 10, 9, 8, 7, 6, 5, 4, 3, 0], [11, 4, 3, 2, 1, 6, 5, 8, 7, 10, 9, 0], [11, 4, 3, 2, 1, 6, 5, 10, 9, 8, 7, 0], [11, 4, 3, 2, 1, 8, 7, 6, 5, 10, 9, 0], [11, 4, 3, 2, 1, 10, 7, 6, 9, 8, 5, 0], [11, 4, 3, 2, 1, 10, 9, 8, 7, 6, 5, 0], [11, 6, 3, 2, 5, 4, 1, 8, 7, 10, 9, 0], [11, 6, 3, 2, 5, 4, 1, 10, 9, 8, 7, 0], [11, 6, 5, 4, 3, 2, 1, 8, 7, 10, 9, 0], [11, 6, 5, 4, 3, 2, 1, 10, 9, 8, 7, 0], [11, 8, 3, 2, 5, 4, 7, 6, 1, 10, 9, 0], [11, 8, 3, 2, 7, 6, 5, 4, 1, 10, 9, 0], [11, 8, 5, 4, 3, 2, 7, 6, 1, 10, 9, 0], [11, 8, 7, 4, 3, 6, 5, 2, 1, 10, 9, 0], [11, 8, 7, 6, 5, 4, 3, 2, 1, 10, 9, 0], [11, 10, 3, 2, 5, 4, 7, 6, 9, 8, 1, 0], [11, 10, 3, 2, 5, 4, 9, 8, 7, 6, 1, 0], [11, 10, 3, 2, 7, 6, 5, 4, 9, 8, 1, 0], [11, 10, 3, 2, 9, 6, 5, 8, 7, 4, 1, 0], [11, 10, 3, 2, 9, 8, 7, 6, 5, 4, 1, 0], [11, 10, 5, 4, 3, 2, 7, 6, 9, 8, 1, 0], [11, 10, 5, 4, 3, 2, 9, 8, 7, 6, 1, 0], [11, 10, 7, 4, 3, 6, 5, 2, 9, 8, 1, 0], [11, 10, 7, 6, 5, 4, 3, 2, 9, 8, 1, 0], [11, 10, 9, 4, 3, 6, 5, 8, 7, 2, 1, 0], [11, 10, 9, 4, 3, 8, 7, 6, 5, 2, 1, 0], [11, 10, 9, 6, 5, 4, 3, 8, 7, 2, 1, 0], [11, 10, 9, 8, 5, 4, 7, 6, 3, 2, 1, 0], [11, 10, 9, 8, 7, 6, 5, 4, 3, 2, 1, 0]]
 | _ => []
def okNew (n : Int) (pre : List Int) (j : Int) : Bool :=
 let i : Int := pre.length
 !(j == i) && (if j < i then pre.getD j.toNat 0 == i else true) && go i j 0 pre
where
 /-- Each earlier point a, joined with c: c is another than j; if c is i, then j is a; if i lies under the arch, so does j. -/
 go (i j : Int) : Int → List Int → Bool
  | _, [] => true
  | a, c :: r => !(c == j) && (if c == i then j == a else true) && (if i < c then decide (a ≤ j) && decide (j ≤ c) else true) && go i j (a + 1) r
def level (n : Nat) : Nat → List (List Int)
 | 0 => [[]]
 | i + 1 => (level n i).flatMap fun pre => ((List.range n).filter fun j => okNew n pre (j : Nat)).map fun j => pre ++ [((j : Nat) : Int)]
theorem okNew_go (n : Nat) (l : List Int) (s : Sys n fun i => l.getD i.toNat 0) (i : Nat) (hi : i < n) (hl : l.length = n) (d : Nat) : ∀ a : Nat, a + d = i →
  okNew.go i (l.getD i 0) a ((l.take i).drop a) = true := by
 induction d with
 | zero =>
  intro a ha
  rw [List.drop_of_length_le (by simp; omega)]; rfl
 | succ d ih =>
  intro a ha
  have hlt : a < (l.take i).length := by simp; omega
  rw [List.drop_eq_getElem_cons hlt]
  unfold okNew.go
  have hg : (l.take i)[a] = l.getD a 0 := by
   rw [List.getElem_take, List.getD_eq_getElem?_getD, List.getElem?_eq_getElem (by omega)]; rfl
  have h := ih (a + 1) (by omega)
  rw [hg, show ((a : Int) + 1) = ((a + 1 : Nat) : Int) by omega, h]
  have ia := s.inv a (by omega) (by omega)
  have ii := s.inv i (by omega) (by omega)
  have ai := s.cr a i (by omega) (by omega) (by omega)
  have li := s.lo i (by omega) (by omega)
  simp only [Int.toNat_natCast] at ia ii ai li
  have h1 : (l.getD a 0 == l.getD i 0) = false := by
   rw [beq_eq_false_iff_ne]
   intro e
   rw [e, ii] at ia; omega
  have h2 : (if (l.getD a 0 == (i : Int)) = true then l.getD i 0 == (a : Int) else true) = true := by
   split
   ·rename_i e
    have e := beq_iff_eq.1 e
    rw [e] at ia
    simp only [Int.toNat_natCast] at ia
    rw [ia]; simp
   ·rfl
  have h3 : (if (i : Int) < l.getD a 0 then decide ((a : Int) ≤ l.getD i 0) && decide (l.getD i 0 ≤ l.getD a 0) else true) = true := by
   split
   ·rename_i e
    have := ai e
    rw [decide_eq_true this.1, decide_eq_true this.2]; rfl
   ·rfl
  rw [h1, h2, h3]; rfl
theorem level_mem (n : Nat) (l : List Int) (s : Sys n fun i => l.getD i.toNat 0) (hl : l.length = n) (i : Nat) : i ≤ n → l.take i ∈ level n i := by
 induction i with
 | zero => intro _; simp [level]
 | succ i ih =>
  intro hi
  unfold level
  rw [List.mem_flatMap]
  refine ⟨l.take i, ih (by omega), ?_⟩
  rw [List.mem_map]
  have lo := s.lo i (by omega) (by omega)
  have hi' := s.hi i (by omega) (by omega)
  simp only [Int.toNat_natCast] at lo hi'
  have hg : l.getD i 0 = l[i]'(by omega) := by
   rw [List.getD_eq_getElem?_getD, List.getElem?_eq_getElem (by omega)]; rfl
  have hc : (((l.getD i 0).toNat : Nat) : Int) = l.getD i 0 := by omega
  refine ⟨(l.getD i 0).toNat, ?_, ?_⟩
  ·rw [List.mem_filter, List.mem_range]
   refine ⟨by omega, ?_⟩
   rw [hc]
   unfold okNew
   have hlen : ((l.take i).length : Int) = i := by simp; omega
   simp only [hlen]
   have hgo := okNew_go n l s i (by omega) hl i 0 (by omega)
   rw [List.drop_zero] at hgo
   have h1 : (l.getD i 0 == (i : Int)) = false := by
    rw [beq_eq_false_iff_ne]
    have := s.ne i (by omega) (by omega)
    simpa using this
   have h2 : (if l.getD i 0 < (i : Int) then (l.take i).getD (l.getD i 0).toNat 0 == (i : Int) else true) = true := by
    split
    ·rename_i e
     have ii := s.inv i (by omega) (by omega)
     simp only [Int.toNat_natCast] at ii
     rw [List.getD_eq_getElem?_getD, List.getElem?_take_of_lt (by omega), ← List.getD_eq_getElem?_getD, ii]; simp
    ·rfl
   rw [h1, h2]
   simp only [Bool.not_false, Bool.and_true, Bool.true_and]
   exact hgo
  ·rw [hc, hg, List.take_succ_eq_append_getElem (by omega)]
theorem level0 : level 0 0 = sysList 0 := by decide +kernel
theorem level2 : level 2 2 = sysList 1 := by decide +kernel
theorem level4 : level 4 4 = sysList 2 := by decide +kernel
theorem level6 : level 6 6 = sysList 3 := by decide +kernel
theorem level8 : level 8 8 = sysList 4 := by decide +kernel
theorem level10 : level 10 10 = sysList 5 := by decide +kernel
theorem level12 : level 12 12 = sysList 6 := by decide +kernel
theorem Sys.mem {l : List Int} (s : Sys l.length fun i => l.getD i.toNat 0) (h : l.length ≤ 12) : l ∈ sysList (l.length / 2) := by
 have hm := level_mem l.length l s rfl l.length (Nat.le_refl _)
 rw [List.take_length] at hm
 have he := s.even (by omega)
 have h7 : l.length = 0 ∨ l.length = 2 ∨ l.length = 4 ∨ l.length = 6 ∨ l.length = 8 ∨ l.length = 10 ∨ l.length = 12 := by omega
 rcases h7 with e | e | e | e | e | e | e <;> rw [e] at hm ⊢
 ·exact level0 ▸ hm
 ·exact level2 ▸ hm
 ·exact level4 ▸ hm
 ·exact level6 ▸ hm
 ·exact level8 ▸ hm
 ·exact level10 ▸ hm
 ·exact level12 ▸ hm
end Pl
end Go.Proofs.Ytfencncopkeobaa
