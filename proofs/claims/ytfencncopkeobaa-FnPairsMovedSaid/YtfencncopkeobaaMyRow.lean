/- Lemmas for the rows of laws whose parameters are structs: a struct is laid open field by field. Conditions: as each statement bears them. -/
import Derived.Test.YtfencncopkeobaaRows
import Derived.WalkKit
import Derived.ProofKit
import Derived.OpenShut
import Derived.ShutString
import Derived.ChangeOld
import Derived.Below
import Derived.SizedLaws
import Derived.ChangeSlices
import Derived.ChangeSame
namespace Go.Proofs.Ytfencncopkeobaa.MyRow
set_option linter.unusedVariables false
open Go.ChangeShapes Go.WideShapes
variable {H : Type} {enc : TypeId × Value → H} {P : Program} {W : World}
/-- A struct of three fields, laid open. -/
theorem my_struct3 {base : Nat} {spare : Nat → Bool} {held : Bool} {t : TypeId} {f0 f1 f2 : Field} {fuel : Nat} {cs : List Value} {x : DataW H × List MemPlace} (ht : P.underlying t = some (.struct #[f0, f1, f2])) (h : DataW.trod enc P W base spare held fuel t cs = some x) :
    ∃ y0 y1 y2 n, x.1 = .agg [y0.1, y1.1, y2.1] ∧ DataW.trod enc P W base spare held n f0.type ((cs.drop f0.offset).take (P.cellsOf f0.type)) = some y0 ∧
      DataW.trod enc P W base spare held n f1.type ((cs.drop f1.offset).take (P.cellsOf f1.type)) = some y1 ∧ DataW.trod enc P W base spare held n f2.type ((cs.drop f2.offset).take (P.cellsOf f2.type)) = some y2 := by
  obtain ⟨xs, n, _, rfl, hl, hlen, hf⟩ := DataW.trod_struct ht h
  match xs, hlen with
  | [y0, y1, y2], _ => exact ⟨y0, y1, y2, n, rfl, by simpa using hf 0 f0 rfl, by simpa using hf 1 f1 rfl, by simpa using hf 2 f2 rfl⟩
theorem my_struct2 {base : Nat} {spare : Nat → Bool} {held : Bool} {t : TypeId} {f0 f1 : Field} {fuel : Nat} {cs : List Value} {x : DataW H × List MemPlace} (ht : P.underlying t = some (.struct #[f0, f1])) (h : DataW.trod enc P W base spare held fuel t cs = some x) :
    ∃ y0 y1 n, x.1 = .agg [y0.1, y1.1] ∧ DataW.trod enc P W base spare held n f0.type ((cs.drop f0.offset).take (P.cellsOf f0.type)) = some y0 ∧
      DataW.trod enc P W base spare held n f1.type ((cs.drop f1.offset).take (P.cellsOf f1.type)) = some y1 := by
  obtain ⟨xs, n, _, rfl, hl, hlen, hf⟩ := DataW.trod_struct ht h
  match xs, hlen with
  | [y0, y1], _ => exact ⟨y0, y1, n, rfl, by simpa using hf 0 f0 rfl, by simpa using hf 1 f1 rfl⟩
/-- What a struct's parts weigh. -/
theorem my_sized {ts : List TypeId} {ds : List (DataW H)} (h : (DataW.weightsEach P ts ds).all (· ≤ reachBytes) = true) {j : Nat} {t : TypeId} {fs : Array Field} {parts : List (DataW H)} (ht : ts[j]? = some t) (hd : ds[j]? = some (.agg parts)) (hu : P.underlying t = some (.struct fs)) :
    (DataW.weightsEach P (fs.toList.map (·.type)) parts).all (· ≤ reachBytes) = true := by
  rw [List.all_eq_true] at h ⊢
  intro n hn
  exact h n (DataW.weights_mem_each ht hd n (by simp only [DataW.weights, hu]; exact hn))
def MyRow (k : IntKind) (w : World) (a : Option Addr) (len cap : Nat) (zs : List Int) : Prop :=
  (a = none ∧ len = 0 ∧ cap = 0 ∧ zs = []) ∨
  ∃ x, a = some x ∧ len ≤ cap ∧ cap ≤ maxLen ∧ zs.length = cap ∧ (∀ i, i < zs.length → w.cell? (x.add i) = some (.int k (zs.getD i 0))) ∧ ∀ n ∈ zs, (Lit.int k n).wf = true
/-- A field that holds a slice of whole numbers. -/
theorem my_ints {held : Bool} {t e : TypeId} {k : IntKind} {n j : Nat} {x : Value} {y : DataW H × List MemPlace} {ts : List TypeId} {ds : List (DataW H)} {B : Nat}
    (ht : P.underlying t = some (.slice e)) (he : P.underlying e = some (.int k)) (hc : P.cellsOf e = 1) (hB : P.bytesOf e = B)
    (h : DataW.trod enc P W 0 (fun _ => true) held n t [x] = some y)
    (hsz : (DataW.weightsEach P ts ds).all (· ≤ reachBytes) = true) (hts : ts[j]? = some t) (hds : ds[j]? = some y.1) :
    ∃ a len cap zs, x = .slice a len cap ∧ MyRow k W a len cap zs ∧ len * B ≤ 140737488351232 := by
  rcases open_ints ht he hc h with ⟨hcs, _⟩ | ⟨a, l, c, zs, hcs, _, hl, hm, hz, hx, hcell, hwz⟩
  · have hx : x = .slice none 0 0 := by simpa using hcs
    exact ⟨none, 0, 0, [], hx, .inl ⟨rfl, rfl, rfl, rfl⟩, by simp⟩
  · have hxx : x = .slice (some a) l c := by simpa using hcs
    refine ⟨some a, l, c, zs, hxx, .inr ⟨a, rfl, hl, hm, by simpa using hz, hcell, hwz⟩, ?_⟩
    rw [hx] at hds
    have z := sized_slice hsz hts hds ht
    rw [hB] at z
    have hr : reachBytes ≤ 140737488351232 := by decide
    have h1 : l ≤ (lits (H := H) k (zs.take l)).length + (lits (H := H) k (zs.drop l)).length := by
      simp at hz
      simp [lits]
      omega
    exact Nat.le_trans (Nat.mul_le_mul_right B h1) (Nat.le_trans z hr)
/-- A field that holds a whole number. -/
theorem my_int {base : Nat} {spare : Nat → Bool} {held : Bool} {t : TypeId} {k : IntKind} {n : Nat} {x : Value} {y : DataW H × List MemPlace} (ht : P.underlying t = some (.int k)) (h : DataW.trod enc P W base spare held n t [x] = some y) :
    ∃ z, x = .int k z ∧ (Lit.int k z).wf = true := by
  obtain ⟨z, hcs, _, hw⟩ := DataW.trod_int ht h
  exact ⟨z, by simpa using hcs, hw⟩
theorem my_two {cs : Array Value} (h : cs.size = 2) : ∃ x y, cs = #[x, y] := by
  rcases cs with ⟨l⟩
  match l, h with
  | [x, y], _ => exact ⟨x, y, rfl⟩
theorem my_three {cs : Array Value} (h : cs.size = 3) : ∃ x y z, cs = #[x, y, z] := by
  rcases cs with ⟨l⟩
  match l, h with
  | [x, y, z], _ => exact ⟨x, y, z, rfl⟩
end Go.Proofs.Ytfencncopkeobaa.MyRow
