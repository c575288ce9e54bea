-- Written by wip/myprint.py (a program of mine round the kit's printer). Lean checks it.
import Derived.Test.YtpbadjdeghmenaaQFnSystemsListedx0
import Derived.Test.YtpbadjdeghmenaaQFnSystemsListedx1
import Derived.Test.YtpbadjdeghmenaaQFnSystemsListedx2
namespace Go.Proofs.Ytpbadjdeghmenaa.QFnSystemsListed
open Go.RowKit Go.Proofs.YtpbadjdeghmenaaW.PrintWords Go.Proofs.YtpbadjdeghmenaaW.PrintLast Go.Proofs.YtpbadjdeghmenaaW.PrintMore
attribute [local go_sem] max2_int min2_int max_two min_two max_three min_three max_four min_four   -- for this text's walks alone
set_option linter.unusedVariables false
set_option linter.unusedSimpArgs false

set_option maxHeartbeats 8000000
set_option maxRecDepth 100000
/-! ### impl_systems: function 32 (by hand) -/
def slices_SortFunc_int_int.sortK_ren : Go.Shelf.Ren := ⟨fun | 6 => 50 | 15 => 58 | 14 => 57 | 28 => 70 | 29 => 71 | 20 => 62 | 21 => 63 | 22 => 64 | 23 => 65 | 24 => 66 | 25 => 67 | 26 => 68 | 27 => 69 | 46 => 73 | 47 => 74 | 48 => 75 | 49 => 76 | 50 => 77 | 57 => 78 | n => n, fun | 22 => 33 | 24 => 26 | 25 => 62 | 3 => 3 | 39 => 65 | 0 => 0 | 53 => 77 | 55 => 46 | 4 => 4 | 46 => 71 | 45 => 70 | 50 => 29 | 5 => 5 | 9 => 9 | 66 => 79 | 70 => 83 | 76 => 85 | 77 => 24 | n => n, fun | n => n⟩
theorem slices_SortFunc_int_int.sortK : Go.Proofs.SlLaysF.n6 Go.Proofs.Try.prog slices_SortFunc_int_int.sortK_ren := {
 mixed := by kernel_rfl
 f6 := ⟨Go.Proofs.Try.f50.name, by decide, Go.Proofs.Try.func50.trans (congrArg some (by kernel_rfl))⟩
 f14 := ⟨Go.Proofs.Try.f57.name, by decide, Go.Proofs.Try.func57.trans (congrArg some (by kernel_rfl))⟩
 f15 := Go.Proofs.Try.func58.trans (congrArg some (by kernel_rfl))
 f20 := ⟨Go.Proofs.Try.f62.name, by decide, Go.Proofs.Try.func62.trans (congrArg some (by kernel_rfl))⟩
 f21 := ⟨Go.Proofs.Try.f63.name, by decide, Go.Proofs.Try.func63.trans (congrArg some (by kernel_rfl))⟩
 f22 := ⟨Go.Proofs.Try.f64.name, by decide, Go.Proofs.Try.func64.trans (congrArg some (by kernel_rfl))⟩
 f23 := ⟨Go.Proofs.Try.f65.name, by decide, Go.Proofs.Try.func65.trans (congrArg some (by kernel_rfl))⟩
 f24 := ⟨Go.Proofs.Try.f66.name, by decide, Go.Proofs.Try.func66.trans (congrArg some (by kernel_rfl))⟩
 f25 := ⟨Go.Proofs.Try.f67.name, by decide, Go.Proofs.Try.func67.trans (congrArg some (by kernel_rfl))⟩
 f26 := ⟨Go.Proofs.Try.f68.name, by decide, Go.Proofs.Try.func68.trans (congrArg some (by kernel_rfl))⟩
 f27 := ⟨Go.Proofs.Try.f69.name, by decide, Go.Proofs.Try.func69.trans (congrArg some (by kernel_rfl))⟩
 f28 := Go.Proofs.Try.func70.trans (congrArg some (by kernel_rfl))
 f29 := Go.Proofs.Try.func71.trans (congrArg some (by kernel_rfl))
 f46 := ⟨Go.Proofs.Try.f73.name, by decide, Go.Proofs.Try.func73.trans (congrArg some (by kernel_rfl))⟩
 f47 := Go.Proofs.Try.func74.trans (congrArg some (by kernel_rfl))
 f48 := Go.Proofs.Try.func75.trans (congrArg some (by kernel_rfl))
 f49 := ⟨Go.Proofs.Try.f76.name, by decide, Go.Proofs.Try.func76.trans (congrArg some (by kernel_rfl))⟩
 f50 := ⟨Go.Proofs.Try.f77.name, by decide, Go.Proofs.Try.func77.trans (congrArg some (by kernel_rfl))⟩
 f57 := ⟨Go.Proofs.Try.f78.name, by decide, Go.Proofs.Try.func78.trans (congrArg some (by kernel_rfl))⟩
 t0 := Go.Proofs.Try.underlying0
 a0 := Go.Proofs.Try.isAgg0
 z0 := Go.Proofs.Try.sizeOf0
 v0 := Go.Proofs.Try.zeroValue0
 t3 := Go.Proofs.Try.underlying3
 a3 := Go.Proofs.Try.isAgg3
 z3 := Go.Proofs.Try.sizeOf3
 v3 := Go.Proofs.Try.zeroValue3
 t4 := Go.Proofs.Try.underlying4
 a4 := Go.Proofs.Try.isAgg4
 z4 := Go.Proofs.Try.sizeOf4
 v4 := Go.Proofs.Try.zeroValue4
 t5 := Go.Proofs.Try.underlying5
 a5 := Go.Proofs.Try.isAgg5
 z5 := Go.Proofs.Try.sizeOf5
 v5 := Go.Proofs.Try.zeroValue5
 t9 := Go.Proofs.Try.underlying9
 a9 := Go.Proofs.Try.isAgg9
 z9 := Go.Proofs.Try.sizeOf9
 v9 := Go.Proofs.Try.zeroValue9
 t22 := Go.Proofs.Try.underlying33
 a22 := Go.Proofs.Try.isAgg33
 z22 := Go.Proofs.Try.sizeOf33
 v22 := Go.Proofs.Try.zeroValue33
 a24 := Go.Proofs.Try.isAgg26
 z24 := Go.Proofs.Try.sizeOf26
 t25 := Go.Proofs.Try.underlying62
 a25 := Go.Proofs.Try.isAgg62
 z25 := Go.Proofs.Try.sizeOf62
 v25 := Go.Proofs.Try.zeroValue62
 t39 := Go.Proofs.Try.underlying65
 a39 := Go.Proofs.Try.isAgg65
 z39 := Go.Proofs.Try.sizeOf65
 v39 := Go.Proofs.Try.zeroValue65
 t45 := Go.Proofs.Try.underlying70
 a45 := Go.Proofs.Try.isAgg70
 z45 := Go.Proofs.Try.sizeOf70
 v45 := Go.Proofs.Try.zeroValue70
 t46 := Go.Proofs.Try.underlying71
 a46 := Go.Proofs.Try.isAgg71
 z46 := Go.Proofs.Try.sizeOf71
 v46 := Go.Proofs.Try.zeroValue71
 t50 := Go.Proofs.Try.underlying29
 a50 := Go.Proofs.Try.isAgg29
 z50 := Go.Proofs.Try.sizeOf29
 v50 := Go.Proofs.Try.zeroValue29
 t53 := Go.Proofs.Try.underlying77
 a53 := Go.Proofs.Try.isAgg77
 z53 := Go.Proofs.Try.sizeOf77
 v53 := Go.Proofs.Try.zeroValue77
 t55 := Go.Proofs.Try.underlying46
 a55 := Go.Proofs.Try.isAgg46
 z55 := Go.Proofs.Try.sizeOf46
 v55 := Go.Proofs.Try.zeroValue46
 t66 := Go.Proofs.Try.underlying79
 a66 := Go.Proofs.Try.isAgg79
 z66 := Go.Proofs.Try.sizeOf79
 v66 := Go.Proofs.Try.zeroValue79
 t70 := Go.Proofs.Try.underlying83
 a70 := Go.Proofs.Try.isAgg83
 z70 := Go.Proofs.Try.sizeOf83
 v70 := Go.Proofs.Try.zeroValue83
 t76 := Go.Proofs.Try.underlying85
 a76 := Go.Proofs.Try.isAgg85
 z76 := Go.Proofs.Try.sizeOf85
 v76 := Go.Proofs.Try.zeroValue85
 t77 := Go.Proofs.Try.underlying24
 a77 := Go.Proofs.Try.isAgg24
 z77 := Go.Proofs.Try.sizeOf24
 v77 := Go.Proofs.Try.zeroValue24 }
/-- What slices.Compare gives at two lists of numbers. -/
def lexC : List Int → List Int → Int
 | [], [] => 0
 | [], _ :: _ => -1
 | _ :: _, [] => 1
 | a :: as_, b :: bs_ => if a < b then -1 else if b < a then 1 else lexC as_ bs_
theorem lexC_refl : ∀ a, lexC a a = 0
 | [] => rfl
 | a :: as_ => by simp only [lexC]; rw [if_neg (by omega), if_neg (by omega)]; exact lexC_refl as_
theorem lexC_trans : ∀ a b c, lexC a b < 0 → lexC b c < 0 → lexC a c < 0
 | [], [], _, h, _ => by simp [lexC] at h
 | [], _ :: _, [], _, h => by simp [lexC] at h
 | [], _ :: _, _ :: _, _, _ => by simp [lexC]
 | _ :: _, [], _, h, _ => by simp [lexC] at h
 | _ :: _, _ :: _, [], _, h => by simp [lexC] at h
 | a :: as_, b :: bs_, c :: cs_, h1, h2 => by
  simp only [lexC] at *
  by_cases x : a < b
  ·by_cases y : b < c
   ·rw [if_pos (by omega)]; omega
   ·rw [if_neg y] at h2
    by_cases z : c < b
    ·rw [if_pos z] at h2; omega
    ·rw [if_pos (by omega)]; omega
  ·rw [if_neg x] at h1
   by_cases x' : b < a
   ·rw [if_pos x'] at h1; omega
   ·rw [if_neg x'] at h1
    by_cases y : b < c
    ·rw [if_pos (by omega)]; omega
    ·rw [if_neg y] at h2
     by_cases z : c < b
     ·rw [if_pos z] at h2; omega
     ·rw [if_neg z] at h2
      rw [if_neg (by omega), if_neg (by omega)]
      exact lexC_trans as_ bs_ cs_ h1 h2
theorem lexC_ntrans : ∀ a b c, ¬ lexC a b < 0 → ¬ lexC b c < 0 → ¬ lexC a c < 0
 | [], [], _, _, h => h
 | [], _ :: _, _, h, _ => by simp [lexC] at h
 | _ :: _, [], [], _, _ => by simp [lexC]
 | _ :: _, [], _ :: _, _, h => by simp [lexC] at h
 | _ :: _, _ :: _, [], _, _ => by simp [lexC]
 | a :: as_, b :: bs_, c :: cs_, h1, h2 => by
  simp only [lexC] at *
  by_cases x : a < b
  ·rw [if_pos x] at h1; omega
  ·rw [if_neg x] at h1
   by_cases y : b < c
   ·rw [if_pos y] at h2; omega
   ·rw [if_neg y] at h2
    rw [if_neg (by omega)]
    by_cases x' : b < a
    ·rw [if_pos (by omega)]; omega
    ·rw [if_neg x'] at h1
     by_cases z : c < b
     ·rw [if_pos (by omega)]; omega
     ·rw [if_neg z] at h2
      rw [if_neg (by omega)]
      exact lexC_ntrans as_ bs_ cs_ h1 h2
theorem lexC_eq : ∀ a b, ¬ lexC a b < 0 → ¬ lexC b a < 0 → a = b
 | [], [], _, _ => rfl
 | [], _ :: _, h, _ => by simp [lexC] at h
 | _ :: _, [], _, h => by simp [lexC] at h
 | a :: as_, b :: bs_, h1, h2 => by
  simp only [lexC] at *
  by_cases x : a < b
  ·rw [if_pos x] at h1; omega
  ·by_cases y : b < a
   ·rw [if_pos y] at h2; omega
   ·rw [if_neg x, if_neg y] at h1
    rw [if_neg y, if_neg x] at h2
    obtain rfl : a = b := by omega
    rw [lexC_eq as_ bs_ h1 h2]
/-- Rows, sorted by lexC. -/
def rowIns (x : List Int) : List (List Int) → List (List Int)
 | [] => [x]
 | y :: ys => if lexC y x < 0 then y :: rowIns x ys else x :: y :: ys
def rowSort (xs : List (List Int)) : List (List Int) := xs.foldr rowIns []
theorem rowIns_perm (x : List Int) : ∀ ys, (rowIns x ys).Perm (x :: ys)
 | [] => List.Perm.refl _
 | y :: ys => by
  unfold rowIns
  split
  ·exact (List.Perm.cons y (rowIns_perm x ys)).trans (List.Perm.swap x y ys)
  ·exact List.Perm.refl _
theorem rowSort_perm : ∀ xs, (rowSort xs).Perm xs
 | [] => List.Perm.refl _
 | x :: xs => (rowIns_perm x _).trans (List.Perm.cons x (rowSort_perm xs))
def RowsUp (xs : List (List Int)) : Prop := xs.Pairwise fun a b => ¬ lexC b a < 0
theorem rowIns_up (x : List Int) : ∀ ys, RowsUp ys → RowsUp (rowIns x ys)
 | [], _ => by simp [rowIns, RowsUp]
 | y :: ys, h => by
  have h1 := List.pairwise_cons.1 h
  unfold rowIns
  split
  ·rename_i hlt
   refine List.pairwise_cons.2 ⟨fun z hz => ?_, rowIns_up x ys h1.2⟩
   rcases List.mem_cons.1 ((rowIns_perm x ys).mem_iff.1 hz) with rfl | hz
   ·intro h2
    have := lexC_trans _ _ _ hlt h2
    rw [lexC_refl] at this
    omega
   ·exact h1.1 z hz
  ·rename_i hge
   refine List.pairwise_cons.2 ⟨fun z hz => ?_, h⟩
   rcases List.mem_cons.1 hz with rfl | hz
   ·exact hge
   ·exact lexC_ntrans _ _ _ (h1.1 z hz) hge
theorem rowSort_up : ∀ xs, RowsUp (rowSort xs)
 | [] => by simp [rowSort, RowsUp]
 | x :: xs => rowIns_up x _ (rowSort_up xs)
theorem rows_unique : ∀ {xs ys : List (List Int)}, xs.Perm ys → RowsUp xs → RowsUp ys → xs = ys
 | [], ys, h, _, _ => (List.Perm.nil_eq h)
 | x :: xs, [], h, _, _ => by have := h.length_eq; simp at this
 | x :: xs, y :: ys, h, hx, hy => by
  have hx1 := List.pairwise_cons.1 hx
  have hy1 := List.pairwise_cons.1 hy
  have e : x = y := by
   rcases List.mem_cons.1 (h.mem_iff.1 (List.mem_cons_self)) with e | hm
   ·exact e
   ·rcases List.mem_cons.1 (h.mem_iff.2 (List.mem_cons_self)) with e | hm2
    ·exact e.symm
    ·exact lexC_eq _ _ (hy1.1 _ hm) (hx1.1 _ hm2)
  subst e
  rw [rows_unique ((List.perm_cons x).1 h) hx1.2 hy1.2]
theorem slices_Compare_int_int.w64_ {x : Int} (h1 : -9223372036854775808 ≤ x) (h2 : x < 9223372036854775808) : wrap64 x = x := by unfold wrap64; omega
theorem slices_Compare_int_int.cmp_ (a b : Int) : cmp_Compare_int.f a b = some (if a < b then -1 else if b < a then 1 else 0) := by
 simp only [cmp_Compare_int.f, cmp_isNaN_int.f, Option.bind_some, bne_self_eq_false, Bool.false_eq_true, if_false]
 by_cases h1 : a < b
 ·rw [if_pos h1, if_pos h1]
 ·by_cases h2 : b < a
  ·rw [if_neg h1, if_neg h1, if_pos h2, if_pos h2]
  ·rw [if_neg h1, if_neg h1, if_neg h2, if_neg h2]
theorem slices_Compare_int_int.rd_ (l : List Int) (i : Nat) (h : i < l.length) : l.drop i = rd l (i : Int) :: l.drop (i + 1) := by
 rw [List.drop_eq_getElem_cons h]
 unfold rd
 rw [Int.toNat_natCast, List.getD_eq_getElem?_getD, List.getElem?_eq_getElem h]; rfl
theorem slices_Compare_int_int.lex_at (l0 l1 : List Int) (h0 : l0.length ≤ 9223372036854775807) (h1 : l1.length ≤ 9223372036854775807) :
  ∀ (d i : Nat), i + d = l0.length → i ≤ l1.length → slices_Compare_int_int.l0 (d + 1) l0 l1 l0 (l0.length : Int) (i : Int) = some (lexC (l0.drop i) (l1.drop i))
 | 0, i, hd, hi => by
  obtain rfl : i = l0.length := by omega
  simp only [slices_Compare_int_int.l0]
  rw [if_neg (by omega), List.drop_length]
  by_cases h : l0.length < l1.length
  ·rw [if_pos (by omega), slices_Compare_int_int.rd_ l1 _ h]; rfl
  ·rw [if_neg (by omega), List.drop_eq_nil_of_le (by omega)]; rfl
 | d + 1, i, hd, hi => by
  have hi0 : i < l0.length := by omega
  rw [slices_Compare_int_int.l0]
  rw [if_pos (by omega), if_pos (by omega), if_pos (by omega)]
  by_cases h : i < l1.length
  ·rw [if_neg (by omega), if_pos (by omega), slices_Compare_int_int.cmp_, Option.bind_some, slices_Compare_int_int.rd_ l0 i hi0, slices_Compare_int_int.rd_ l1 i h]
   simp only [lexC]
   by_cases x : rd l0 (i : Int) < rd l1 (i : Int)
   ·rw [if_pos x, if_neg (by omega), if_pos x]
   ·by_cases y : rd l1 (i : Int) < rd l0 (i : Int)
    ·rw [if_neg x, if_pos y, if_neg (by omega), if_neg x, if_pos y]
    ·rw [if_neg x, if_neg y, if_pos rfl, if_neg x, if_neg y, slices_Compare_int_int.w64_ (by omega) (by omega)]
     exact slices_Compare_int_int.lex_at l0 l1 h0 h1 d (i + 1) (by omega) (by omega)
  ·rw [if_pos (by omega), slices_Compare_int_int.rd_ l0 i hi0, List.drop_eq_nil_of_le (by omega : l1.length ≤ i)]; rfl
theorem slices_Compare_int_int.lex (l0 l1 : List Int) (h0 : l0.length ≤ 9223372036854775807) (h1 : l1.length ≤ 9223372036854775807) : slices_Compare_int_int.f (l0.length + 1) l0 l1 = some (lexC l0 l1) := slices_Compare_int_int.lex_at l0 l1 h0 h1 l0.length 0 (by omega) (by omega)
set_option maxHeartbeats 1000000 in
section
variable {α : Type} [Inhabited α] (en : α → Value)
theorem hold_of_block {w : World} {g : Nat} {cur : Array Value} {e : TypeId} {ss : List α} (hb : w.heap[g]? = some (.cells cur e (0, 0))) (ht : cur.toList.take ss.length = ss.map en) : Go.Sort.Holds en w g 0 ss.toArray := by
 intro j hj
 have hj' : j < ss.length := by simpa using hj
 refine ⟨?_, by simp [World.frozen?, hb]⟩
 have h1 : (cur.toList.take ss.length)[j]? = (ss.map en)[j]? := by rw [ht]
 rw [List.getElem?_take_of_lt hj'] at h1
 simp only [World.cell?, hb, Nat.zero_add]
 simp only [Option.isSome_none, Bool.false_eq_true, if_false]
 rw [← Array.getElem?_toList, h1]
 simp [hj']
theorem heap_srt {w : World} {g n : Nat} {os : Array Obj} {cur : Array Value} {e : TypeId} {fr : Nat × Nat} (d : Array α) (hb : w.heap[g]? = some (.cells cur e fr)) :
  (Go.Proofs.sortWorld en w g 0 n d os).heap[g]? = some (.cells (Go.Sort.putCells en 0 d cur) e fr) := by
 have hg : g < w.heap.size := (Array.getElem?_eq_some_iff.1 hb).1
 unfold Go.Proofs.sortWorld
 rw [Go.Sort.heap_grow_old _ _ (by simpa using hg)]
 simp [Go.Sort.putRow, Go.Sort.mapBlock, Go.Sort.ahead, Array.getElem?_modify, hb, Go.Sort.onCells]
theorem heap_srt_other {w : World} {g n k : Nat} {os : Array Obj} (d : Array α) (hk : k < w.heap.size) (hne : k ≠ g) : (Go.Proofs.sortWorld en w g 0 n d os).heap[k]? = w.heap[k]? := by
 unfold Go.Proofs.sortWorld
 rw [Go.Sort.heap_grow_old _ _ (by simpa using hk)]
 have : g ≠ k := fun e => hne e.symm
 simp [Go.Sort.putRow, Go.Sort.mapBlock, Go.Sort.ahead, Array.getElem?_modify, this]
theorem grownBy_srt {w : World} {g n : Nat} {os : Array Obj} (d : Array α) : w.grownBy (Go.Proofs.sortWorld en w g 0 n d os) (some g) := by
 refine ⟨rfl, rfl, rfl, by simp [Go.Proofs.sortWorld], fun k hk hne => ?_⟩
 exact heap_srt_other en d hk (fun e => hne (by rw [e]))
theorem take_putC (cur : Array Value) (ts : List α) (h : ts.length ≤ cur.size) : (Go.Sort.putCells en 0 ts.toArray cur).toList.take ts.length = ts.map en := by
 apply List.ext_getElem?
 intro j
 by_cases hj : j < ts.length
 ·rw [List.getElem?_take_of_lt hj, Array.getElem?_toList]
  simp [Go.Sort.putCells, hj, show j < cur.size by omega]
 ·rw [List.getElem?_take_eq_none (by omega), List.getElem?_eq_none (by simp; omega)]
end
/-- A row's value, its list, its index: what the sort carries about. -/
def slices_SortFunc_int_int.Good (w : World) (g : Nat) (p : (Value × List Int) × Nat) : Prop := Foot (fun W => (Kd.slice 3 (Kd.int .i64)).K W p.1.2 [p.1.1]) w (fun k => k ≠ g)
theorem slices_SortFunc_int_int.sort_core {w : World} {g cap : Nat} {cur : Array Value} (L0 : List ((Value × List Int) × Nat)) (hL : ∀ p ∈ L0, slices_SortFunc_int_int.Good w g p) (hg : w.heap[g]? = some (.cells cur 26 (0, 0)))
  (htake : cur.toList.take L0.length = L0.map (fun p => p.1.1)) (hp : 0 < L0.length) (hl : L0.length < 4611686018427387904) (hcs : L0.length ≤ cur.size) :
  Calls Try.prog 50 #[.slice (some ⟨g, 0, none⟩) L0.length cap, .func (.func 51) #[] #[]] w fun e w' => e = .returned (.tuple #[]) ∧ ∃ (L' : List ((Value × List Int) × Nat)) (cur' : Array Value), L'.Perm L0 ∧ RowsUp (L'.map (fun p => p.1.2)) ∧
   w'.heap[g]? = some (.cells cur' 26 (0, 0)) ∧ cur'.size = cur.size ∧ cur'.toList.take L0.length = L'.map (fun p => p.1.1) ∧ (∀ k, k < w.heap.size → k ≠ g → w'.heap[k]? = w.heap[k]?) ∧ w.grownBy w' (some g) := by
 have hgl : g < w.heap.size := (Array.getElem?_eq_some_iff.1 hg).1
 obtain ⟨L, rfl⟩ : ∃ L : List {p // slices_SortFunc_int_int.Good w g p}, L.map Subtype.val = L0 := ⟨L0.attach.map (fun p => ⟨p.1, hL p.1 p.2⟩), by rw [List.map_map]; exact List.attach_map_subtype_val L0⟩
 simp only [List.length_map, List.map_map] at *
 haveI : Inhabited {p // slices_SortFunc_int_int.Good w g p} := ⟨L.get ⟨0, hp⟩⟩
 let en : {p // slices_SortFunc_int_int.Good w g p} → Value := fun a => a.1.1.1
 let cf : {p // slices_SortFunc_int_int.Good w g p} → {p // slices_SortFunc_int_int.Good w g p} → Int := fun a b => lexC a.1.1.2 b.1.1.2
 have hone : ∀ a, (en a).oneCell' = true := fun a => (Kd.slice 3 (Kd.int .i64)).K_one (Foot.now a.2) _ (List.mem_singleton.2 rfl)
 have hswo : Go.Sort.SWO (Go.Proofs.ltOf cf) := {
  irrefl := fun x => by simp [Go.Proofs.ltOf, cf, lexC_refl]
  trans := fun x y z h1 h2 => by simp only [Go.Proofs.ltOf, decide_eq_true_eq, cf] at *; exact lexC_trans _ _ _ h1 h2
  ntrans := fun x y z h1 h2 => by simp only [Go.Proofs.ltOf, decide_eq_false_iff_not, cf] at *; exact lexC_ntrans _ _ _ h1 h2 }
 have heg : ∀ args w, (callFunc 51 args).run Try.prog w = .ok (.enter 51 args) w := fun args w => enters_of Try.func51 (by kernel_rfl) rfl args w
 have hcmp : Go.Proofs.CmpLays1 Try.prog 51 #[] en cf g 0 L.toArray.size w := by
  intro m os dk hdk x y
  have hx := x.2 (Go.Proofs.sortWorld en w g 0 m dk os) (fun k hk hlt => heap_srt_other en dk hlt hk)
  have hy := y.2 (Go.Proofs.sortWorld en w g 0 m dk os) (fun k hk hlt => heap_srt_other en dk hlt hk)
  obtain ⟨A0, c0, e0, l0, r0⟩ := hx
  obtain ⟨A1, c1, e1, l1, r1⟩ := hy
  injection e0 with e0
  injection e1 with e1
  have hx1 : en x = .slice A0 x.1.1.2.length c0 := e0
  have hy1 : en y = .slice A1 y.1.1.2.length c1 := e1
  rw [hx1, hy1]
  refine (slices_Compare_int_int.calls _ A0 c0 x.1.1.2 A1 c1 y.1.1.2 (lexC x.1.1.2 y.1.1.2) _ r0 l0 r1 l1 (slices_Compare_int_int.lex x.1.1.2 y.1.1.2 r0.2.1 r1.2.1)).mono ?_
  rintro e w' ⟨he, ⟨q, hq⟩⟩
  exact ⟨he, q, #[], by rw [Go.Sort.grow_empty]; exact hq⟩
 have hHolds : Go.Sort.Holds en w g 0 L.toArray := hold_of_block en hg htake
 have hcon := Go.Proofs.Any.slices_SortFunc slices_SortFunc_int_int.sortK en hone cf hswo 51 #[] g 0 cap L.toArray w heg hcmp hHolds hgl (by simpa using hl)
 have hsize : L.toArray.size = L.length := by simp
 rw [hsize] at hcon
 refine (show Calls Try.prog 50 _ _ _ from hcon).mono ?_
 rintro e w' ⟨he, d', n, os, hperm, hsrt, rfl⟩
 obtain ⟨hds, _, hpm⟩ := hperm
 have hd' : d' = d'.toList.toArray := by simp
 have hdl : d'.toList.length = L.length := by simp [hds]
 have hpm' : d'.toList.Perm L := by
  have e1 : (d'.extract 0 L.length) = d' := by rw [← hsize, ← hds]; simp
  have e2 : (L.toArray.extract 0 L.length) = L.toArray := by rw [← hsize]; simp
  rw [e1, e2] at hpm
  exact hpm
 refine ⟨he, d'.toList.map Subtype.val, Go.Sort.putCells en 0 d' cur, hpm'.map _, ?_, heap_srt en d' hg, by simp [Go.Sort.putCells], ?_, fun k hk hne => heap_srt_other en d' hk hne, grownBy_srt en d'⟩
 ·unfold RowsUp
  rw [List.map_map, List.pairwise_map, List.pairwise_iff_getElem]
  intro i j hi hj hij
  have h1 := hsrt i j (Nat.zero_le _) hij (by rw [← hdl]; exact hj)
  simp only [Go.Proofs.ltOf, decide_eq_false_iff_not, cf] at h1
  rw [getElem!_pos d' i (by simpa using hi), getElem!_pos d' j (by simpa using hj)] at h1
  simpa using h1
 ·rw [List.map_map, ← hdl]
  conv => lhs; rw [hd']
  exact take_putC en cur d'.toList (by rw [hdl]; exact hcs)
/-- The library's sort of rows of numbers by slices.Compare: the same rows, each still the call's own and apart from the others, sorted. -/
theorem slices_SortFunc_int_int.sortS {w : World} {base : Nat} {ok : Nat → Prop} {v : Value} {xs : List (List Int)} (hS : Kd.S (Kd.slice 3 (Kd.int .i64)) 26 w base ok v xs) (hp : 0 < xs.length) (hl : xs.length < 4611686018427387904) :
  Calls Try.prog 50 #[v, .func (.func 51) #[] #[]] w fun e w' => e = .returned (.tuple #[]) ∧ Kd.S (Kd.slice 3 (Kd.int .i64)) 26 w' base ok v (rowSort xs) ∧ w.grownBy w' v.ownBlock := by
 obtain ⟨f, hok, inner, ho, hr⟩ := hS
 have hsz : (Kd.tag f (Kd.slice 3 (Kd.int .i64))).sz = 1 := rfl
 rw [hsz] at ho hr
 rw [List.length_zipIdx] at ho
 rcases ho.2 with ⟨_, hz⟩ | ⟨g, cap, cur, rfl, hbg, hg, hncap, hcap, hcs, htake⟩
 ·omega
 have hown : (Value.slice (some ⟨g, 0, none⟩) xs.length cap).ownBlock = some g := rfl
 rw [hown] at hok hr ⊢
 have hil : inner.length = xs.length := by have := hr.1; simpa using this
 have hM : ∀ (i : Nat) (u : Value) (x : List Int), inner[i]? = some u → xs[i]? = some x → (Kd.int .i64).R 3 w base (fun k => (ok k ∧ some k ≠ some g) ∧ f k = i) u x := by
  intro i u x hu hx
  have h1 := hr.2 i (x, i) (by rw [List.getElem?_zipIdx, hx]; simp)
  obtain ⟨hil', rfl⟩ := List.getElem?_eq_some_iff.1 hu
  rw [Nat.mul_one, List.drop_eq_getElem_cons hil', List.take_succ_cons, List.take_zero] at h1
  obtain ⟨v', e, h2⟩ := h1
  injection e with e
  rw [e]
  exact h2
 obtain ⟨L0, hL0⟩ : ∃ L0, L0 = (inner.zip xs).zipIdx := ⟨_, rfl⟩
 have hlen : L0.length = xs.length := by rw [hL0]; simp [hil]
 have hget : ∀ (p : (Value × List Int) × Nat), p ∈ L0 → inner[p.2]? = some p.1.1 ∧ xs[p.2]? = some p.1.2 := by
  intro p hp
  rw [hL0] at hp
  obtain ⟨i, hi⟩ := List.mem_iff_getElem?.1 hp
  rw [List.getElem?_zipIdx] at hi
  obtain ⟨q, hq, rfl⟩ := Option.map_eq_some_iff.1 hi
  rw [List.getElem?_zip_eq_some] at hq
  simpa using hq
 have hvals : L0.map (fun p => p.1.1) = inner := by
  have : L0.map (fun p => p.1.1) = ((inner.zip xs).zipIdx.map Prod.fst).map Prod.fst := by rw [hL0, List.map_map]; rfl
  rw [this, List.zipIdx_map_fst, List.map_fst_zip (by omega)]
 have hrows : L0.map (fun p => p.1.2) = xs := by
  have : L0.map (fun p => p.1.2) = ((inner.zip xs).zipIdx.map Prod.fst).map Prod.snd := by rw [hL0, List.map_map]; rfl
  rw [this, List.zipIdx_map_fst, List.map_snd_zip (by omega)]
 have hnod : (L0.map Prod.snd).Nodup := by
  rw [hL0, List.zipIdx_map_snd]
  exact List.nodup_range'
 have hgood : ∀ p ∈ L0, slices_SortFunc_int_int.Good w g p := by
  intro p hp
  obtain ⟨h1, h2⟩ := hget p hp
  have h3 := hM p.2 _ _ h1 h2
  exact Foot.mono (Kd.FK_of_M (d := Kd.slice 3 (Kd.int .i64)) (x := p.1.2) (c := [p.1.1]) ⟨_, rfl, h3⟩) (fun k hk => fun e => hk.1.2 (by rw [e]))
 have hcon := slices_SortFunc_int_int.sort_core (cap := cap) L0 hgood hg (by rw [hlen, hvals, ← htake, Nat.mul_one]) (by omega) (by omega) (by rw [hcs, hlen, Nat.mul_one]; exact hncap)
 rw [hlen] at hcon
 refine hcon.mono ?_
 rintro e w' ⟨he, L', cur', hpm, hup, hg', hcs', htake', hold, hgrow⟩
 have hlen' : L'.length = xs.length := by rw [hpm.length_eq, hlen]
 have hsorted : L'.map (fun p => p.1.2) = rowSort xs := by
  refine rows_unique ((hpm.map _).trans ?_) hup (rowSort_up xs)
  rw [hrows]
  exact (rowSort_perm xs).symm
 have hnod' : (L'.map Prod.snd).Nodup := (hpm.map Prod.snd).nodup_iff.2 hnod
 have hrl : (rowSort xs).length = xs.length := (rowSort_perm xs).length_eq
 refine ⟨he, ⟨fun k => (L'.map Prod.snd).idxOf (f k), ?_⟩, hgrow⟩
 refine ⟨hok, L'.map (fun p => p.1.1), ⟨?_, .inr ⟨g, cap, cur', ?_, hbg, hg', ?_, hcap, ?_, ?_⟩⟩, ?_, ?_⟩
 ·show (L'.map (fun p => p.1.1)).length = (rowSort xs).zipIdx.length * 1
  simp [hlen', hrl]
 ·rw [List.length_zipIdx, hrl]
 ·rw [List.length_zipIdx, hrl]; exact hncap
 ·rw [hcs', hcs]; rfl
 ·show cur'.toList.take ((rowSort xs).zipIdx.length * 1) = _
  rw [List.length_zipIdx, hrl, Nat.mul_one]
  exact htake'
 ·show (L'.map (fun p => p.1.1)).length = (rowSort xs).zipIdx.length * 1
  simp [hlen', hrl]
 ·intro i p hi
  rw [List.getElem?_zipIdx, ← hsorted, List.getElem?_map] at hi
  obtain ⟨x, hx, rfl⟩ := Option.map_eq_some_iff.1 hi
  obtain ⟨q, hq, rfl⟩ := Option.map_eq_some_iff.1 hx
  obtain ⟨hil2, hqe⟩ := List.getElem?_eq_some_iff.1 hq
  show ∃ v', ((L'.map (fun p => p.1.1)).drop (i * 1)).take 1 = [v'] ∧ _
  refine ⟨q.1.1, by rw [Nat.mul_one, List.drop_eq_getElem_cons (by simpa using hil2)]; simp [hqe], ?_⟩
  have hmem : q ∈ L0 := hpm.mem_iff.1 (List.mem_of_getElem? hq)
  obtain ⟨h1, h2⟩ := hget q hmem
  have h3 := hM q.2 _ _ h1 h2
  have hidx : (L'.map Prod.snd).idxOf q.2 = i := by
   have := hnod'.idxOf_getElem i (by simpa using hil2)
   rwa [List.getElem_map, hqe] at this
  refine Kd.R_mono (Kd.R_step h3 (fun k hk hlt => hold k hlt (fun e => hk.1.2 (by rw [e])))) (fun k hk => ⟨?_, ?_⟩)
  ·exact hk.1
  ·show (L'.map Prod.snd).idxOf (f k) = 0 + i
   rw [hk.2, hidx, Nat.zero_add]

/-! ### impl_systems: function 32 -/
mutual
def impl_systems.l0 : Nat → Int → List (List Int) → Int → Int → Option ((List (List Int)))
 | 0, _, _, _, _ => none
 | k + 1, x0, x3, x14, x15 => if x15 < x14 then ((impl_systems.f k x15).bind fun t209 => (impl_systems.l1 k x0 x3 x15 x14 x15 t209 (t209.length : Int) 0)) else (if 0 < x3.length then (if x3.length < 4611686018427387904 then (some (rowSort x3)) else none) else none)
def impl_systems.l1 : Nat → Int → List (List Int) → Int → Int → Int → List (List Int) → Int → Int → Option ((List (List Int)))
 | 0, _, _, _, _, _, _, _, _ => none
 | k + 1, x0, x3, x4, x14, x15, x19, x20, x21 => if x21 < x20 then (if 0 ≤ x21 then (if x21 < (x19.length : Int) then ((impl_systems.f k (wrap64 ((wrap64 (x0 - 1)) - x4))).bind fun t213 => (impl_systems.l2 k x0 x3 x4 (rd_L2 x19 x21) x14 x15 x19 x20 x21 t213 (t213.length : Int) 0)) else (none)) else (none)) else (impl_systems.l0 k x0 x3 x14 (wrap64 (x15 + 1)))
def impl_systems.l2 : Nat → Int → List (List Int) → Int → List Int → Int → Int → List (List Int) → Int → Int → List (List Int) → Int → Int → Option ((List (List Int)))
 | 0, _, _, _, _, _, _, _, _, _, _, _, _ => none
 | k + 1, x0, x3, x4, x6, x14, x15, x19, x20, x21, x29, x30, x31 => if x31 < x30 then (if 0 ≤ x31 then (if x31 < (x29.length : Int) then ((impl_covered.f k x6).bind fun t217 => ((impl_joined.f k t217 (rd_L2 x29 x31)).bind fun t220 => (if x3.length < 5864062014805 then (impl_systems.l2 k x0 (x3 ++ [t220]) x4 x6 x14 x15 x19 x20 x21 x29 x30 (wrap64 (x31 + 1))) else (none)))) else (none)) else (none)) else (impl_systems.l1 k x0 x3 x4 x14 x15 x19 x20 (wrap64 (x21 + 1)))
def impl_systems.f : Nat → Int → Option ((List (List Int)))
 | 0, _ => none
 | k + 1, a0 => if a0 = 0 then (some (([[]] : List (List Int)))) else (impl_systems.l0 k a0 (([] : List (List Int))) a0 0)
end
theorem impl_systems.mono_l : ∀ k, (∀ y0, LeO (impl_systems.f k y0) (impl_systems.f (k + 1) y0)) ∧ (∀ y0 y1 y2 y3, LeO (impl_systems.l0 k y0 y1 y2 y3) (impl_systems.l0 (k + 1) y0 y1 y2 y3)) ∧ (∀ y0 y1 y2 y3 y4 y5 y6 y7, LeO (impl_systems.l1 k y0 y1 y2 y3 y4 y5 y6 y7) (impl_systems.l1 (k + 1) y0 y1 y2 y3 y4 y5 y6 y7)) ∧ (∀ y0 y1 y2 y3 y4 y5 y6 y7 y8 y9 y10 y11, LeO (impl_systems.l2 k y0 y1 y2 y3 y4 y5 y6 y7 y8 y9 y10 y11) (impl_systems.l2 (k + 1) y0 y1 y2 y3 y4 y5 y6 y7 y8 y9 y10 y11))
 | 0 => ⟨fun _ r h => by simp [impl_systems.f] at h, fun _ _ _ _ r h => by simp [impl_systems.l0] at h, fun _ _ _ _ _ _ _ _ r h => by simp [impl_systems.l1] at h, fun _ _ _ _ _ _ _ _ _ _ _ _ r h => by simp [impl_systems.l2] at h⟩
 | k + 1 => by
  obtain ⟨ih0, ih1, ih2, ih3⟩ := impl_systems.mono_l k
  refine ⟨?_, ?_, ?_, ?_⟩
  ·intro y0
   unfold impl_systems.f
   repeat' first
   | (with_reducible exact ih0 _)
   | (with_reducible exact ih1 _ _ _ _)
   | (with_reducible exact ih2 _ _ _ _ _ _ _ _)
   | (with_reducible exact ih3 _ _ _ _ _ _ _ _ _ _ _ _)
   | (with_reducible exact impl_covered.mono _ _)
   | (with_reducible exact impl_joined.mono _ _ _)
   | (with_reducible exact LeO.refl _)
   | (with_reducible exact LeO.none _)
   | (with_reducible refine LeO.ite ?_ ?_)
   | (with_reducible refine LeO.bind ?_ (fun _ => ?_))
   | exact LeO.none _
   | refine LeO.ite ?_ ?_
   | refine LeO.bind ?_ (fun _ => ?_)
  ·intro y0 y1 y2 y3
   unfold impl_systems.l0
   repeat' first
   | (with_reducible exact ih0 _)
   | (with_reducible exact ih1 _ _ _ _)
   | (with_reducible exact ih2 _ _ _ _ _ _ _ _)
   | (with_reducible exact ih3 _ _ _ _ _ _ _ _ _ _ _ _)
   | (with_reducible exact impl_covered.mono _ _)
   | (with_reducible exact impl_joined.mono _ _ _)
   | (with_reducible exact LeO.refl _)
   | (with_reducible exact LeO.none _)
   | (with_reducible refine LeO.ite ?_ ?_)
   | (with_reducible refine LeO.bind ?_ (fun _ => ?_))
   | exact LeO.none _
   | refine LeO.ite ?_ ?_
   | refine LeO.bind ?_ (fun _ => ?_)
  ·intro y0 y1 y2 y3 y4 y5 y6 y7
   unfold impl_systems.l1
   repeat' first
   | (with_reducible exact ih0 _)
   | (with_reducible exact ih1 _ _ _ _)
   | (with_reducible exact ih2 _ _ _ _ _ _ _ _)
   | (with_reducible exact ih3 _ _ _ _ _ _ _ _ _ _ _ _)
   | (with_reducible exact impl_covered.mono _ _)
   | (with_reducible exact impl_joined.mono _ _ _)
   | (with_reducible exact LeO.refl _)
   | (with_reducible exact LeO.none _)
   | (with_reducible refine LeO.ite ?_ ?_)
   | (with_reducible refine LeO.bind ?_ (fun _ => ?_))
   | exact LeO.none _
   | refine LeO.ite ?_ ?_
   | refine LeO.bind ?_ (fun _ => ?_)
  ·intro y0 y1 y2 y3 y4 y5 y6 y7 y8 y9 y10 y11
   unfold impl_systems.l2
   repeat' first
   | (with_reducible exact ih0 _)
   | (with_reducible exact ih1 _ _ _ _)
   | (with_reducible exact ih2 _ _ _ _ _ _ _ _)
   | (with_reducible exact ih3 _ _ _ _ _ _ _ _ _ _ _ _)
   | (with_reducible exact impl_covered.mono _ _)
   | (with_reducible exact impl_joined.mono _ _ _)
   | (with_reducible exact LeO.refl _)
   | (with_reducible exact LeO.none _)
   | (with_reducible refine LeO.ite ?_ ?_)
   | (with_reducible refine LeO.bind ?_ (fun _ => ?_))
   | exact LeO.none _
   | refine LeO.ite ?_ ?_
   | refine LeO.bind ?_ (fun _ => ?_)
theorem impl_systems.mono : ∀ a0 k, LeO (impl_systems.f k a0) (impl_systems.f (k + 1) a0) := by
 intro a0 k
 obtain ⟨ih0, ih1, ih2, ih3⟩ := impl_systems.mono_l k
 exact ih0 a0
theorem impl_systems.calls (k : Nat) : ∀ (a0 : Int) (r : List (List Int)) (w : World) (h : impl_systems.f k a0 = some r),
  Calls Try.prog 32 #[.int .i64 a0] w fun e w' => ∃ v0_ : Value, e = .returned (v0_) ∧ Kd.S (Kd.slice 3 (Kd.int .i64)) 26 w' w.heap.size (fun _ => True) v0_ r ∧ Below w.heap.size w w' := by
 induction k using Nat.strongRecOn with
 | _ k ih =>
 intro a0 r w h
 cases k with
 | zero => exact absurd h (by simp [impl_systems.f])
 | succ k =>
 simp only [impl_systems.f] at h
 have HB := Aside0.mk (Below.refl w.heap.size w)
 have H : (if a0 = 0 then (some (([[]] : List (List Int)))) else (impl_systems.l0 k a0 (([] : List (List Int))) a0 0)) = some r := h
 clear h
 by_cases c2 : a0 = 0
 ·rw [if_pos c2] at H
  have c2b0 : (a0 == 0) = true := beq_iff_eq.mpr c2
  have c2b1 : (a0 != 0) = false := bne_eq_false_iff_eq.mpr c2
  clear c2
  obtain ⟨y200, hy200⟩ : ∃ y_ : List Int, y_ = (([] : List Int)) := ⟨_, rfl⟩
  replace H : (some (([[]] : List (List Int)))) = some r := by first | (rw [hy200]; with_reducible exact H) | (have H2_ := (Option.bind_some _ _).symm.trans H; rw [hy200]; with_reducible exact H2_) | (have H2_ := (Option.bind_some _ _).symm.trans H; with_reducible exact H2_) | with_reducible exact H | (rw [hy200]; exact H) | exact H
  have Ny200 := Aside0.mk hy200
  clear hy200
  obtain ⟨y203, hy203⟩ : ∃ y_ : List (List Int), y_ = (([[]] : List (List Int))) := ⟨_, rfl⟩
  replace H : (some y203) = some r := by first | (rw [hy203]; with_reducible exact H) | (have H2_ := (Option.bind_some _ _).symm.trans H; rw [hy203]; with_reducible exact H2_) | (have H2_ := (Option.bind_some _ _).symm.trans H; with_reducible exact H2_) | with_reducible exact H | (rw [hy203]; exact H) | exact H
  have Ny203 := Aside0.mk hy203
  clear hy203
  obtain rfl := Option.some.inj H
  go_enter Try.func32, Try.ntmps32
  go_wp2_with (first | ((with_reducible refine gate_dst (N := 11) rfl ?_); refine Kd.R_lit (Kd.int .i64) _ 3 ?hg (N := 11) ?hd (xs := ([] : List Int)) (inner := []) (ok := fun _ => True) (okp := fun _ => True) ?hr ?hp (fun _ hk => hk) trivial (Below.refl _ _) (Nat.le_refl _) (by simp) ?_; (case hd => rfl); (case hg => rfl); (case hr => first | (go_simp; done) | (go_simp; rfl)); (case hp => exact (Reps.none _ _)); intro v201 w3 ho4 hb hg_ hnew_; clear hg_ hnew_; (first | rw [← Ny200.out] at ho4 | (simp only [Int.reduceToNat] at ho4; rw [← Ny200.out] at ho4)); have HO202 := Aside0.mk (Kd.R_lower ho4 (below_size (by repeat (first | exact HB.out | apply bA | apply bN | apply bD)))); replace HB := Aside0.mk (below_step (by repeat (first | exact HB.out | apply bA | apply bN | apply bD)) hb); clear hb ho4; obtain ⟨Aoz, coz, eoz⟩ := Kd.R_slice HO202.out; subst eoz) | ((with_reducible refine gate_dst (N := 12) rfl ?_); refine Kd.S_lits (Kd.slice 3 (Kd.int .i64)) w.heap.size 26 ?hg (N := 12) ?hd (xs := ([[]] : List (List Int))) (inner := [.slice Aoz y200.length coz]) (ok := fun _ => True) (fun j k => j = 0 ∧ some k = (.slice Aoz y200.length coz : Value).ownBlock) ?hr rfl ?hp (fun i j k h1 h2 => h1.1.trans h2.1.symm) (fun _ _ _ => trivial) trivial (by repeat (first | exact HB.out | apply bA | apply bN | apply bD)) (below_size (by repeat (first | exact HB.out | apply bA | apply bN | apply bD))) (by simp) ?_; (case hd => rfl); (case hg => rfl); (case hr => first | (go_simp; done) | (go_simp; rfl)); (case hp => exact fun j x hx => by rcases j with _ | j; (have hx0 : ([] : List Int) = x := by simpa using hx); subst hx0; (have hr_ := HO202.out); rw [← Ny200.out]; exact ⟨_, rfl, Kd.R_mono (Kd.R_tight rfl (by (with_reducible repeat (first | apply rA | apply rN | apply rD)); exact hr_)) (fun k hk => ⟨rfl, hk⟩)⟩; simp at hx); intro v204 w5 ho6 hb hg_ hnew_; clear hg_ hnew_; (first | rw [← Ny203.out] at ho6 | (simp only [Int.reduceToNat] at ho6; rw [← Ny203.out] at ho6)); have HO205 := Aside0.mk ho6; replace HB := Aside0.mk hb; clear hb ho6))
  go_ret
  exact ⟨_, by first | rfl | (simp [*, errW_none, errW_some] <;> rfl), by (with_reducible repeat (first | apply Kd.S_alloc | apply Kd.S_drewN | apply Kd.S_drew)); exact Kd.S_mono HO205.out (fun _ hk => trivial), by repeat (first | exact HB.out | apply bA | apply bN | apply bD)⟩
 ·rw [if_neg c2] at H
  have c2b0 : (a0 == 0) = false := beq_eq_false_iff_ne.mpr c2
  have c2b1 : (a0 != 0) = true := bne_iff_ne.mpr c2
  obtain ⟨y206, hy206⟩ : ∃ y_ : List (List Int), y_ = (([] : List (List Int))) := ⟨_, rfl⟩
  replace H : (impl_systems.l0 k a0 y206 a0 0) = some r := by first | (rw [hy206]; with_reducible exact H) | (have H2_ := (Option.bind_some _ _).symm.trans H; rw [hy206]; with_reducible exact H2_) | (have H2_ := (Option.bind_some _ _).symm.trans H; with_reducible exact H2_) | with_reducible exact H | (rw [hy206]; exact H) | exact H
  have Ny206 := Aside0.mk hy206
  clear hy206
  have H' := Aside0.mk H
  clear H
  go_enter Try.func32, Try.ntmps32
  go_wp2_with (first | ((with_reducible refine gate_dst (N := 13) rfl ?_); refine Kd.S_lit (Kd.slice 3 (Kd.int .i64)) _ 26 ?hg (N := 13) ?hd (xs := ([] : List (List Int))) (inner := []) (ok := fun _ => True) (okp := fun _ => True) ?hr ?hp (fun _ hk => hk) trivial (Below.refl _ _) (Nat.le_refl _) (by simp) ?_; (case hd => rfl); (case hg => rfl); (case hr => first | (go_simp; done) | (go_simp; rfl)); (case hp => exact (Reps.none _ _)); intro v207 w7 ho8 hb hg_ hnew_; clear hg_ hnew_; (first | rw [← Ny206.out] at ho8 | (simp only [Int.reduceToNat] at ho8; rw [← Ny206.out] at ho8)); have HO208 := Aside0.mk (Kd.S_lower ho8 (below_size (by repeat (first | exact HB.out | apply bA | apply bN | apply bD)))); replace HB := Aside0.mk (below_step (by repeat (first | exact HB.out | apply bA | apply bN | apply bD)) hb); clear hb ho8))
  go_loopg [3, 15] k (fun kq v3 v15 w' => ∃ (x3_1 : List (List Int)) (x15_1 : Int), v15 = .int .i64 x15_1 ∧ Aside0 (impl_systems.l0 kq a0 x3_1 a0 x15_1 = some r) ∧ Aside0 (kq ≤ k) ∧ Aside0 (Kd.S (Kd.slice 3 (Kd.int .i64)) 26 w' w.heap.size (fun _ => True) v3 x3_1) ∧ Aside0 (Below w.heap.size w w'))
  case atStart => exact ⟨(y206), (0), (by first | rfl | (simp; done) | (simp [*]; done)), H', ⟨Nat.le_refl _⟩, ⟨by (with_reducible repeat (first | apply Kd.S_alloc | apply Kd.S_drewN | apply Kd.S_drew)); exact HO208.out⟩, ⟨by repeat (first | exact HB.out | apply bA | apply bN | apply bD)⟩⟩
  case round =>
   clear H'
   try clear p2
   obtain ⟨x3_1, x15_1, rfl, HA, HK1, HO_3, HB⟩ := hrel
   cases gk with
   | zero => exact absurd HA.out (by simp [impl_systems.l0])
   | succ k1 =>
    have H := HA.out
    clear HA
    simp only [impl_systems.l0] at H
    by_cases c9 : x15_1 < a0
    ·rw [if_pos c9] at H
     have c9b0 : decide (x15_1 < a0) = true := decide_eq_true c9
     clear c9
     replace H := Option.bind_eq_some_iff.mp H
     obtain ⟨t209, A100, H⟩ := H
     replace H : (impl_systems.l1 k1 a0 x3_1 x15_1 a0 x15_1 t209 (t209.length : Int) 0) = some r := H
     have A10 := Aside0.mk A100
     clear A100
     have H' := Aside0.mk H
     clear H
     go_wp2_with (first | ((with_reducible refine gate_callee (f := 32) rfl ?_); refine goesL_ (some 19) rfl rfl Try.func32 (by kernel_rfl) rfl #[.int .i64 x15_1] rfl (by (try simp only [List.map_toArray, List.map_cons, List.map_nil]); first | done | rfl) ?_; (with_reducible refine (ih k1 (by have := HK1.out; omega) x15_1 t209 _ A10.out).mono ?_); rintro e w11 ⟨v210, rfl, ho0, hb⟩; refine ⟨_, rfl, ?_⟩; have HO211 := Aside0.mk (Kd.S_lower (Kd.S_new' ho0 (Kd.S_lt (by (with_reducible repeat (first | apply Kd.S_alloc | apply Kd.S_drewN | apply Kd.S_drew)); exact HO_3.out))) (below_size (by repeat (first | exact HB.out | apply bA | apply bN | apply bD)))); replace HO_3 := Aside0.mk (Kd.S_elder' (by (with_reducible repeat (first | apply Kd.S_alloc | apply Kd.S_drewN | apply Kd.S_drew)); exact HO_3.out) (Kd.S_base ho0) hb); replace HB := Aside0.mk (below_step (by repeat (first | exact HB.out | apply bA | apply bN | apply bD)) hb); (try clear hb2); (try clear hb hk hi); (try clear ho0); obtain ⟨Ao12, co12, eo12⟩ := Kd.S_slice HO211.out; subst eo12))
     go_loopg [3, 21] k1 (fun kq v3 v21 w' => ∃ (x3_2 : List (List Int)) (x21_2 : Int), v21 = .int .i64 x21_2 ∧ Aside0 (impl_systems.l1 kq a0 x3_2 x15_1 a0 x15_1 t209 (t209.length : Int) x21_2 = some r) ∧ Aside0 (kq ≤ k1) ∧ Aside0 (Kd.S (Kd.slice 3 (Kd.int .i64)) 26 w' w.heap.size (fun k_ => some k_ ≠ ((.slice Ao12 t209.length co12) : Value).ownBlock) v3 x3_2) ∧ Aside0 (Kd.S (Kd.slice 3 (Kd.int .i64)) 26 w' w.heap.size (fun k_ => some k_ ≠ (v3 : Value).ownBlock) (.slice Ao12 t209.length co12) t209) ∧ Aside0 (Below w.heap.size w w'))
     case atStart => exact ⟨(x3_1), (0), (by first | rfl | (simp; done) | (simp [*]; done)), H', ⟨Nat.le_refl _⟩, ⟨by (with_reducible repeat (first | apply Kd.S_alloc | apply Kd.S_drewN | apply Kd.S_drew)); exact Kd.S_mono HO_3.out (fun _ hk => hk.2)⟩, ⟨by (with_reducible repeat (first | apply Kd.S_alloc | apply Kd.S_drewN | apply Kd.S_drew)); exact Kd.S_mono HO211.out (fun _ hk => hk.2)⟩, ⟨by repeat (first | exact HB.out | apply bA | apply bN | apply bD)⟩⟩
     case round =>
      clear H'
      try clear p2
      try clear p2
      obtain ⟨x3_2, x21_2, rfl, HA, HK2, HO_3, HO_19, HB⟩ := hrel
      cases gk with
      | zero => exact absurd HA.out (by simp [impl_systems.l1])
      | succ k2 =>
       have H := HA.out
       clear HA
       simp only [impl_systems.l1] at H
       by_cases c13 : x21_2 < (t209.length : Int)
       ·rw [if_pos c13] at H
        have c13b0 : decide (x21_2 < (t209.length : Int)) = true := decide_eq_true c13
        clear c13
        by_cases c14 : 0 ≤ x21_2
        ·rw [if_pos c14] at H
         have c14b0 : decide (0 ≤ x21_2) = true := decide_eq_true c14
         clear c14
         by_cases c15 : x21_2 < (t209.length : Int)
         ·rw [if_pos c15] at H
          have c15b0 : decide (x21_2 < (t209.length : Int)) = true := decide_eq_true c15
          clear c15
          replace H := Option.bind_eq_some_iff.mp H
          obtain ⟨t213, A160, H⟩ := H
          replace H : (impl_systems.l2 k2 a0 x3_2 x15_1 (rd_L2 t209 x21_2) a0 x15_1 t209 (t209.length : Int) x21_2 t213 (t213.length : Int) 0) = some r := H
          have A16 := Aside0.mk A160
          clear A160
          have H' := Aside0.mk H
          clear H
          have p212 : 0 ≤ (x21_2 : Int) := of_decide_eq_true (by assumption)
          have q212 : x21_2 < (t209.length : Int) := of_decide_eq_true (by assumption)
          obtain ⟨ad212, A212_0, c212_0, e212, hx212_0, hl212_0, hi212_0⟩ := at_L2 (Kd.S_reads' HO_19.out).2.2 x21_2 p212 q212
          cases e212
          obtain ⟨ce212, hce212, hMe212, hcc212⟩ := Kd.N_get (Aside0.mk (Kd.S_N HO_19.out)).out [] x21_2 p212 (by first | exact q212 | exact of_decide_eq_true (by assumption) | (have e_ := (Kd.N_reads' (Aside0.mk (Kd.S_N HO_19.out)).out).1; omega))
          obtain ⟨ua212_0, uc212_0, rfl, ul212_0, ge212_0⟩ := Kd.FK_slice_open hMe212
          have hv212_0 := hcc212 0 _ rfl
          rw [Nat.add_zero, show ((Kd.slice 3 (Kd.int .i64))).sz = 1 from rfl, Nat.mul_one] at hv212_0
          replace hv212_0 := Option.some.inj (hv212_0.symm.trans hx212_0)
          injection hv212_0 with hva_ hvn_ hvc_
          rw [hva_] at ge212_0
          rw [hvc_] at ul212_0
          have HL212_0 := Aside0.mk (show Kd.V (Kd.int .i64) 3 _ w.heap.size _ _ (rd_L2 t209 x21_2) from Kd.V_mk ul212_0 ge212_0)
          clear hva_ hvn_ hvc_ ge212_0 ul212_0 hcc212 hce212
          have HR212_0 := Aside0.mk hi212_0
          have HC212_0 := Aside0.mk hl212_0
          clear hi212_0 hl212_0
          replace p212 := eq_true p212
          replace q212 := eq_true q212
          go_wp2_with (first | ((with_reducible refine gate_callee (f := 32) rfl ?_); refine goesL_ (some 29) rfl rfl Try.func32 (by kernel_rfl) rfl #[.int .i64 (wrap64 ((wrap64 (a0 - 1)) - x15_1))] rfl (by (try simp only [List.map_toArray, List.map_cons, List.map_nil]); first | done | rfl) ?_; (with_reducible refine (ih k2 (by have := HK1.out; have := HK2.out; omega) (wrap64 ((wrap64 (a0 - 1)) - x15_1)) t213 _ A16.out).mono ?_); rintro e w17 ⟨v214, rfl, ho0, hb⟩; refine ⟨_, rfl, ?_⟩; replace HL212_0 := Aside0.mk (Kd.V_elder' (by (with_reducible repeat (first | apply Kd.V_alloc | apply Kd.V_drewN | apply Kd.V_drew)); exact HL212_0.out) (Kd.S_base ho0) hb); have HO215 := Aside0.mk (Kd.S_lower (Kd.S_new' (Kd.S_new' ho0 (Kd.S_lt (by (with_reducible repeat (first | apply Kd.S_alloc | apply Kd.S_drewN | apply Kd.S_drew)); exact HO_3.out))) (Kd.S_lt (by (with_reducible repeat (first | apply Kd.S_alloc | apply Kd.S_drewN | apply Kd.S_drew)); exact HO_19.out))) (below_size (by repeat (first | exact HB.out | apply bA | apply bN | apply bD)))); replace HO_3 := Aside0.mk (Kd.S_elder' (by (with_reducible repeat (first | apply Kd.S_alloc | apply Kd.S_drewN | apply Kd.S_drew)); exact HO_3.out) (Kd.S_base ho0) hb); replace HO_19 := Aside0.mk (Kd.S_elder' (by (with_reducible repeat (first | apply Kd.S_alloc | apply Kd.S_drewN | apply Kd.S_drew)); exact HO_19.out) (Kd.S_base ho0) hb); replace HR212_0 := Aside0.mk (Kd.C_below (by repeat (first | (with_reducible exact HR212_0.out) | (with_reducible refine Kd.C_alloc ?_ _) | (with_reducible refine Kd.C_drewN ?_ _) | (with_reducible refine Kd.C_drew ?_) | exact HR212_0.out)) hb); replace HB := Aside0.mk (below_step (by repeat (first | exact HB.out | apply bA | apply bN | apply bD)) hb); (try clear hb2); (try clear hb hk hi); (try clear ho0); obtain ⟨Ao18, co18, eo18⟩ := Kd.S_slice HO215.out; subst eo18))
          go_loopg [3, 31] k2 (fun kq v3 v31 w' => ∃ (x3_3 : List (List Int)) (x31_3 : Int), v31 = .int .i64 x31_3 ∧ Aside0 (impl_systems.l2 kq a0 x3_3 x15_1 (rd_L2 t209 x21_2) a0 x15_1 t209 (t209.length : Int) x21_2 t213 (t213.length : Int) x31_3 = some r) ∧ Aside0 (kq ≤ k2) ∧ Aside0 (Kd.S (Kd.slice 3 (Kd.int .i64)) 26 w' w.heap.size (fun k_ => some k_ ≠ ((.slice (some ad212) t209.length co12) : Value).ownBlock ∧ some k_ ≠ ((.slice Ao18 t213.length co18) : Value).ownBlock) v3 x3_3) ∧ Aside0 (Kd.V (Kd.int .i64) 3 w' w.heap.size (fun k_ => some k_ ≠ (v3 : Value).ownBlock ∧ some k_ ≠ ((.slice (some ad212) t209.length co12) : Value).ownBlock ∧ some k_ ≠ ((.slice Ao18 t213.length co18) : Value).ownBlock) (.slice A212_0 (rd_L2 t209 x21_2).length c212_0) (rd_L2 t209 x21_2)) ∧ Aside0 (Kd.S (Kd.slice 3 (Kd.int .i64)) 26 w' w.heap.size (fun k_ => some k_ ≠ (v3 : Value).ownBlock ∧ some k_ ≠ ((.slice Ao18 t213.length co18) : Value).ownBlock) (.slice (some ad212) t209.length co12) t209) ∧ Aside0 (Kd.S (Kd.slice 3 (Kd.int .i64)) 26 w' w.heap.size (fun k_ => some k_ ≠ (v3 : Value).ownBlock ∧ some k_ ≠ ((.slice (some ad212) t209.length co12) : Value).ownBlock) (.slice Ao18 t213.length co18) t213) ∧ Aside0 (Below w.heap.size w w'))
          case atStart => exact ⟨(x3_2), (0), (by first | rfl | (simp; done) | (simp [*]; done)), H', ⟨Nat.le_refl _⟩, ⟨by (with_reducible repeat (first | apply Kd.S_alloc | apply Kd.S_drewN | apply Kd.S_drew)); exact HO_3.out⟩, ⟨by (with_reducible repeat (first | apply Kd.V_alloc | apply Kd.V_drewN | apply Kd.V_drew)); exact Kd.V_mono HL212_0.out (fun _ hk => ⟨hk.1.1, ⟨hk.1.2, hk.2⟩⟩)⟩, ⟨by (with_reducible repeat (first | apply Kd.S_alloc | apply Kd.S_drewN | apply Kd.S_drew)); exact HO_19.out⟩, ⟨by (with_reducible repeat (first | apply Kd.S_alloc | apply Kd.S_drewN | apply Kd.S_drew)); exact Kd.S_mono HO215.out (fun _ hk => ⟨hk.1.2, hk.2⟩)⟩, ⟨by repeat (first | exact HB.out | apply bA | apply bN | apply bD)⟩⟩
          case round =>
           clear H'
           try clear p2
           try clear q2
           try clear hx2
           try clear p6
           try clear hx212_0
           try clear p2
           try clear p212
           try clear q212
           obtain ⟨x3_3, x31_3, rfl, HA, HK3, HO_3, HO_6, HO_19, HO_29, HB⟩ := hrel
           cases gk with
           | zero => exact absurd HA.out (by simp [impl_systems.l2])
           | succ k3 =>
            have H := HA.out
            clear HA
            simp only [impl_systems.l2] at H
            by_cases c19 : x31_3 < (t213.length : Int)
            ·rw [if_pos c19] at H
             have c19b0 : decide (x31_3 < (t213.length : Int)) = true := decide_eq_true c19
             clear c19
             by_cases c20 : 0 ≤ x31_3
             ·rw [if_pos c20] at H
              have c20b0 : decide (0 ≤ x31_3) = true := decide_eq_true c20
              clear c20
              by_cases c21 : x31_3 < (t213.length : Int)
              ·rw [if_pos c21] at H
               have c21b0 : decide (x31_3 < (t213.length : Int)) = true := decide_eq_true c21
               clear c21
               replace H := Option.bind_eq_some_iff.mp H
               obtain ⟨t217, A220, H⟩ := H
               replace H : ((impl_joined.f k3 t217 (rd_L2 t213 x31_3)).bind fun t220 => (if x3_3.length < 5864062014805 then (impl_systems.l2 k3 a0 (x3_3 ++ [t220]) x15_1 (rd_L2 t209 x21_2) a0 x15_1 t209 (t209.length : Int) x21_2 t213 (t213.length : Int) (wrap64 (x31_3 + 1))) else (none))) = some r := H
               have A22 := Aside0.mk A220
               clear A220
               replace H := Option.bind_eq_some_iff.mp H
               obtain ⟨t220, A230, H⟩ := H
               replace H : (if x3_3.length < 5864062014805 then (impl_systems.l2 k3 a0 (x3_3 ++ [t220]) x15_1 (rd_L2 t209 x21_2) a0 x15_1 t209 (t209.length : Int) x21_2 t213 (t213.length : Int) (wrap64 (x31_3 + 1))) else (none)) = some r := H
               have A23 := Aside0.mk A230
               clear A230
               by_cases c24 : x3_3.length < 5864062014805
               ·rw [if_pos c24] at H
                have LMc24 := Aside0.mk c24
                clear c24
                obtain ⟨y223, hy223⟩ : ∃ y_ : List (List Int), y_ = (x3_3 ++ [t220]) := ⟨_, rfl⟩
                replace H : (impl_systems.l2 k3 a0 y223 x15_1 (rd_L2 t209 x21_2) a0 x15_1 t209 (t209.length : Int) x21_2 t213 (t213.length : Int) (wrap64 (x31_3 + 1))) = some r := by first | (rw [hy223]; with_reducible exact H) | (have H2_ := (Option.bind_some _ _).symm.trans H; rw [hy223]; with_reducible exact H2_) | (have H2_ := (Option.bind_some _ _).symm.trans H; with_reducible exact H2_) | with_reducible exact H | (rw [hy223]; exact H) | exact H
                have Ny223 := Aside0.mk hy223
                clear hy223
                have H' := Aside0.mk H
                clear H
                have p216 : 0 ≤ (x31_3 : Int) := of_decide_eq_true (by assumption)
                have q216 : x31_3 < (t213.length : Int) := of_decide_eq_true (by assumption)
                obtain ⟨ad216, A216_0, c216_0, e216, hx216_0, hl216_0, hi216_0⟩ := at_L2 (Kd.S_reads' HO_29.out).2.2 x31_3 p216 q216
                cases e216
                obtain ⟨ce216, hce216, hMe216, hcc216⟩ := Kd.N_get (Aside0.mk (Kd.S_N HO_29.out)).out [] x31_3 p216 (by first | exact q216 | exact of_decide_eq_true (by assumption) | (have e_ := (Kd.N_reads' (Aside0.mk (Kd.S_N HO_29.out)).out).1; omega))
                obtain ⟨ua216_0, uc216_0, rfl, ul216_0, ge216_0⟩ := Kd.FK_slice_open hMe216
                have hv216_0 := hcc216 0 _ rfl
                rw [Nat.add_zero, show ((Kd.slice 3 (Kd.int .i64))).sz = 1 from rfl, Nat.mul_one] at hv216_0
                replace hv216_0 := Option.some.inj (hv216_0.symm.trans hx216_0)
                injection hv216_0 with hva_ hvn_ hvc_
                rw [hva_] at ge216_0
                rw [hvc_] at ul216_0
                have HL216_0 := Aside0.mk (show Kd.V (Kd.int .i64) 3 _ w.heap.size _ _ (rd_L2 t213 x31_3) from Kd.V_mk ul216_0 ge216_0)
                clear hva_ hvn_ hvc_ ge216_0 ul216_0 hcc216 hce216
                have HR216_0 := Aside0.mk hi216_0
                have HC216_0 := Aside0.mk hl216_0
                clear hi216_0 hl216_0
                replace p216 := eq_true p216
                replace q216 := eq_true q216
                go_wp2_with (first | ((with_reducible refine gate_callee (f := 49) rfl ?_); refine goesL_ (some 37) rfl rfl Try.func49 (by kernel_rfl) rfl #[.slice A212_0 (rd_L2 t209 x21_2).length c212_0] rfl (by (try simp only [List.map_toArray, List.map_cons, List.map_nil]); first | done | rfl) ?_; (with_reducible refine (impl_covered.calls k3 _ _ (rd_L2 t209 x21_2) t217 _ ?side1 ?side2 A22.out).mono ?_); (case side1 => repeat (first | exact (Kd.V_reads' HO_6.out).2.2 | (with_reducible refine Kd.C_alloc ?_ _) | (with_reducible refine Kd.C_drewN ?_ _) | (with_reducible refine Kd.C_drew ?_))); (case side2 => exact (Kd.V_reads' HO_6.out).2.1); rintro e w25 ⟨v218, rfl, ho0, hb⟩; refine ⟨_, rfl, ?_⟩; replace HO_3 := Aside0.mk (Kd.S_elder' (by (with_reducible repeat (first | apply Kd.S_alloc | apply Kd.S_drewN | apply Kd.S_drew)); exact HO_3.out) (Kd.R_base ho0) hb); replace HO_6 := Aside0.mk (Kd.V_elder' (by (with_reducible repeat (first | apply Kd.V_alloc | apply Kd.V_drewN | apply Kd.V_drew)); exact HO_6.out) (Kd.R_base ho0) hb); replace HO_19 := Aside0.mk (Kd.S_elder' (by (with_reducible repeat (first | apply Kd.S_alloc | apply Kd.S_drewN | apply Kd.S_drew)); exact HO_19.out) (Kd.R_base ho0) hb); replace HO_29 := Aside0.mk (Kd.S_elder' (by (with_reducible repeat (first | apply Kd.S_alloc | apply Kd.S_drewN | apply Kd.S_drew)); exact HO_29.out) (Kd.R_base ho0) hb); replace HL216_0 := Aside0.mk (Kd.V_elder' (by (with_reducible repeat (first | apply Kd.V_alloc | apply Kd.V_drewN | apply Kd.V_drew)); exact HL216_0.out) (Kd.R_base ho0) hb); have HO219 := Aside0.mk (Kd.R_lower ho0 (below_size (by repeat (first | exact HB.out | apply bA | apply bN | apply bD)))); replace HR216_0 := Aside0.mk (Kd.C_below (by repeat (first | (with_reducible exact HR216_0.out) | (with_reducible refine Kd.C_alloc ?_ _) | (with_reducible refine Kd.C_drewN ?_ _) | (with_reducible refine Kd.C_drew ?_) | exact HR216_0.out)) hb); replace HB := Aside0.mk (below_step (by repeat (first | exact HB.out | apply bA | apply bN | apply bD)) hb); (try clear hb2); (try clear hb hk hi); (try clear ho0); obtain ⟨Ao26, co26, eo26⟩ := Kd.R_slice HO219.out; subst eo26) | ((with_reducible refine gate_callee (f := 48) rfl ?_); refine goesL_ (some 39) rfl rfl Try.func48 (by kernel_rfl) rfl #[.slice Ao26 t217.length co26, .slice A216_0 (rd_L2 t213 x31_3).length c216_0] rfl (by (try simp only [List.map_toArray, List.map_cons, List.map_nil]); first | done | rfl) ?_; (with_reducible refine (impl_joined.calls k3 _ _ t217 _ _ (rd_L2 t213 x31_3) t220 _ ?side1 ?side2 ?side3 ?side4 A23.out).mono ?_); (case side1 => repeat (first | exact (Kd.R_reads' HO219.out).2.2 | (with_reducible refine Kd.C_alloc ?_ _) | (with_reducible refine Kd.C_drewN ?_ _) | (with_reducible refine Kd.C_drew ?_))); (case side2 => exact (Kd.R_reads' HO219.out).2.1); (case side3 => repeat (first | exact (Kd.V_reads' HL216_0.out).2.2 | (with_reducible refine Kd.C_alloc ?_ _) | (with_reducible refine Kd.C_drewN ?_ _) | (with_reducible refine Kd.C_drew ?_))); (case side4 => exact (Kd.V_reads' HL216_0.out).2.1); rintro e w27 ⟨v221, rfl, ho0, hb⟩; refine ⟨_, rfl, ?_⟩; replace HO_3 := Aside0.mk (Kd.S_elder' (by (with_reducible repeat (first | apply Kd.S_alloc | apply Kd.S_drewN | apply Kd.S_drew)); exact HO_3.out) (Kd.R_base ho0) hb); replace HO_6 := Aside0.mk (Kd.V_elder' (by (with_reducible repeat (first | apply Kd.V_alloc | apply Kd.V_drewN | apply Kd.V_drew)); exact HO_6.out) (Kd.R_base ho0) hb); replace HO_19 := Aside0.mk (Kd.S_elder' (by (with_reducible repeat (first | apply Kd.S_alloc | apply Kd.S_drewN | apply Kd.S_drew)); exact HO_19.out) (Kd.R_base ho0) hb); replace HO_29 := Aside0.mk (Kd.S_elder' (by (with_reducible repeat (first | apply Kd.S_alloc | apply Kd.S_drewN | apply Kd.S_drew)); exact HO_29.out) (Kd.R_base ho0) hb); replace HL216_0 := Aside0.mk (Kd.V_elder' (by (with_reducible repeat (first | apply Kd.V_alloc | apply Kd.V_drewN | apply Kd.V_drew)); exact HL216_0.out) (Kd.R_base ho0) hb); have HO222 := Aside0.mk (Kd.R_lower (Kd.R_new' ho0 (Kd.R_lt (by (with_reducible repeat (first | apply rA | apply rN | apply rD)); exact HO219.out))) (below_size (by repeat (first | exact HB.out | apply bA | apply bN | apply bD)))); replace HO219 := Aside0.mk (Kd.R_elder' (by (with_reducible repeat (first | apply rA | apply rN | apply rD)); exact HO219.out) (Kd.R_base ho0) hb); replace HR216_0 := Aside0.mk (Kd.C_below (by repeat (first | (with_reducible exact HR216_0.out) | (with_reducible refine Kd.C_alloc ?_ _) | (with_reducible refine Kd.C_drewN ?_ _) | (with_reducible refine Kd.C_drew ?_) | exact HR216_0.out)) hb); replace HB := Aside0.mk (below_step (by repeat (first | exact HB.out | apply bA | apply bN | apply bD)) hb); (try clear hb2); (try clear hb hk hi); (try clear ho0); obtain ⟨Ao29, co29, eo29⟩ := Kd.R_slice HO222.out; subst eo29) | ((with_reducible refine gate_builtin (b := .append) (xs := #[.tmp 35, .tmp 40]) rfl ?_); at_builtin; refine Kd.S_append (Kd.slice 3 (Kd.int .i64)) (w0 := w) w.heap.size rfl (.tmp 35) (.tmp 40) 33 26 (.slice none 0 0) 24 rfl Try.underlying33 info26 rfl (by decide) (by omega) u3 x3_3 t220 [.slice Ao29 t220.length co29] (fun k_ => some k_ ≠ (.slice (some ad212) t209.length co12 : Value).ownBlock ∧ some k_ ≠ (.slice (some ad216) t213.length co18 : Value).ownBlock ∧ some k_ ≠ (.slice Ao26 t217.length co26 : Value).ownBlock) (fun k_ => some k_ = (.slice Ao29 t220.length co29 : Value).ownBlock) rfl rfl ?aP (fun k_ hk_ => ((Kd.R_mono (ok' := fun k_ => ((fun k_ => some k_ ≠ (.slice (some ad212) t209.length co12 : Value).ownBlock ∧ some k_ ≠ (.slice (some ad216) t213.length co18 : Value).ownBlock ∧ some k_ ≠ (.slice Ao26 t217.length co26 : Value).ownBlock)) k_ ∧ some k_ ≠ (u3 : Value).ownBlock) (Kd.R_apart' (Kd.R_apart' (Kd.R_apart' (HO222.out) (Kd.S_typed HO_19.out) (by decide)) (Kd.S_typed HO_29.out) (by decide)) (Kd.S_typed HO_3.out) (by decide)) (fun k_ hk => ⟨⟨hk.1.1.2, ⟨hk.1.2, hk.1.1.1.2⟩⟩, hk.2⟩))).1 k_ hk_.symm) ?aF ?aO ?aB ?aS ?aL ?_; (case aP => exact Kd.M_row (Kd.R_mono (Kd.R_tight rfl (Kd.R_mono (ok' := fun k_ => ((fun k_ => some k_ ≠ (.slice (some ad212) t209.length co12 : Value).ownBlock ∧ some k_ ≠ (.slice (some ad216) t213.length co18 : Value).ownBlock ∧ some k_ ≠ (.slice Ao26 t217.length co26 : Value).ownBlock)) k_ ∧ some k_ ≠ (u3 : Value).ownBlock) (Kd.R_apart' (Kd.R_apart' (Kd.R_apart' (HO222.out) (Kd.S_typed HO_19.out) (by decide)) (Kd.S_typed HO_29.out) (by decide)) (Kd.S_typed HO_3.out) (by decide)) (fun k_ hk => ⟨⟨hk.1.1.2, ⟨hk.1.2, hk.1.1.1.2⟩⟩, hk.2⟩))) (fun _ h_ => h_))); (case aB => exact (by repeat (first | exact HB.out | apply bA | apply bN | apply bD))); (case aF => exact (fun k_ hk => ⟨Kd.fresh' (Kd.S_lt (by (with_reducible repeat (first | apply Kd.S_alloc | apply Kd.S_drewN | apply Kd.S_drew)); exact HO_19.out)) k_ hk, Kd.fresh' (Kd.S_lt (by (with_reducible repeat (first | apply Kd.S_alloc | apply Kd.S_drewN | apply Kd.S_drew)); exact HO_29.out)) k_ hk, Kd.fresh' (Kd.R_lt (by (with_reducible repeat (first | apply rA | apply rN | apply rD)); exact HO219.out)) k_ hk⟩)); (case aO => exact (by (with_reducible repeat (first | apply Kd.S_alloc | apply Kd.S_drewN | apply Kd.S_drew)); exact Kd.S_mono HO_3.out (fun k_ hk => ⟨⟨hk.1.1.1, ⟨hk.1.1.2, hk.1.2⟩⟩, fun e_ => hk.2 e_⟩))); (case aS => exact (below_size (by repeat (first | exact HB.out | apply bA | apply bN | apply bD)))); (case aL => have := LMc24.out; omega); intro v224 w28 ho hb hg hat; rw [← Ny223.out] at ho; replace HO_6 := Aside0.mk (Kd.V_afterv (ok := (fun k_ => some k_ ≠ (.slice (some ad212) t209.length co12 : Value).ownBlock ∧ some k_ ≠ (.slice (some ad216) t213.length co18 : Value).ownBlock ∧ some k_ ≠ (.slice Ao26 t217.length co26 : Value).ownBlock ∧ some k_ ≠ (.slice Ao29 t220.length co29 : Value).ownBlock)) (by (with_reducible repeat (first | apply Kd.V_alloc | apply Kd.V_drewN | apply Kd.V_drew)); exact Kd.V_mono HO_6.out (fun _ hk => ⟨⟨hk.1.1.2.1, ⟨hk.1.1.2.2, ⟨hk.1.2, hk.2⟩⟩⟩, hk.1.1.1⟩)) hg hat); replace HO_19 := Aside0.mk (Kd.S_after (ok := (fun k_ => some k_ ≠ (.slice (some ad216) t213.length co18 : Value).ownBlock ∧ some k_ ≠ (.slice Ao26 t217.length co26 : Value).ownBlock ∧ some k_ ≠ (.slice Ao29 t220.length co29 : Value).ownBlock)) (by (with_reducible repeat (first | apply Kd.S_alloc | apply Kd.S_drewN | apply Kd.S_drew)); exact Kd.S_mono HO_19.out (fun _ hk => ⟨⟨hk.1.1.2, ⟨hk.1.2, hk.2⟩⟩, hk.1.1.1⟩)) hg hat); replace HO_29 := Aside0.mk (Kd.S_after (ok := (fun k_ => some k_ ≠ (.slice (some ad212) t209.length co12 : Value).ownBlock ∧ some k_ ≠ (.slice Ao26 t217.length co26 : Value).ownBlock ∧ some k_ ≠ (.slice Ao29 t220.length co29 : Value).ownBlock)) (by (with_reducible repeat (first | apply Kd.S_alloc | apply Kd.S_drewN | apply Kd.S_drew)); exact Kd.S_mono HO_29.out (fun _ hk => ⟨⟨hk.1.1.2, ⟨hk.1.2, hk.2⟩⟩, hk.1.1.1⟩)) hg hat); replace HL216_0 := Aside0.mk (Kd.V_afterv (ok := (fun k_ => some k_ ≠ (.slice (some ad212) t209.length co12 : Value).ownBlock ∧ some k_ ≠ (.slice (some ad216) t213.length co18 : Value).ownBlock ∧ some k_ ≠ (.slice Ao26 t217.length co26 : Value).ownBlock ∧ some k_ ≠ (.slice Ao29 t220.length co29 : Value).ownBlock)) (by (with_reducible repeat (first | apply Kd.V_alloc | apply Kd.V_drewN | apply Kd.V_drew)); exact Kd.V_mono HL216_0.out (fun _ hk => ⟨⟨hk.1.1.1.2, ⟨hk.1.1.2, ⟨hk.1.2, hk.2⟩⟩⟩, hk.1.1.1.1⟩)) hg hat); replace HO219 := Aside0.mk (Kd.R_over' (by (with_reducible repeat (first | apply rA | apply rN | apply rD)); exact HO219.out) (Kd.S_typed (by (with_reducible repeat (first | apply Kd.S_alloc | apply Kd.S_drewN | apply Kd.S_drew)); exact HO_3.out)) (by decide) hg); replace HB := Aside0.mk (hb); have HO225 := Aside0.mk (ho); clear HO_3 HO222; clear ho hb hg hat))
                go_roundg k3
                case measure => have := HK1.out; have := HK2.out; have := HK3.out; omega
                case rel => exact ⟨(y223), (wrap64 (x31_3 + 1)), (by first | rfl | (simp; done) | (simp [*]; done)), H', ⟨by have := HK1.out; have := HK2.out; have := HK3.out; omega⟩, ⟨by (with_reducible repeat (first | apply Kd.S_alloc | apply Kd.S_drewN | apply Kd.S_drew)); exact Kd.S_mono HO225.out (fun _ hk => ⟨hk.1, hk.2.1⟩)⟩, ⟨by (with_reducible repeat (first | apply Kd.V_alloc | apply Kd.V_drewN | apply Kd.V_drew)); exact Kd.V_mono HO_6.out (fun _ hk => ⟨hk.2, ⟨hk.1.1, hk.1.2.1⟩⟩)⟩, ⟨by (with_reducible repeat (first | apply Kd.S_alloc | apply Kd.S_drewN | apply Kd.S_drew)); exact Kd.S_mono HO_19.out (fun _ hk => ⟨hk.2, hk.1.1⟩)⟩, ⟨by (with_reducible repeat (first | apply Kd.S_alloc | apply Kd.S_drewN | apply Kd.S_drew)); exact Kd.S_mono HO_29.out (fun _ hk => ⟨hk.2, hk.1.1⟩)⟩, ⟨by repeat (first | exact HB.out | apply bA | apply bN | apply bD)⟩⟩
               ·rw [if_neg c24] at H
                exact absurd H (by simp)
              ·rw [if_neg c21] at H
               exact absurd H (by simp)
             ·rw [if_neg c20] at H
              exact absurd H (by simp)
            ·rw [if_neg c19] at H
             have c19b0 : decide (x31_3 < (t213.length : Int)) = false := decide_eq_false c19
             clear c19
             have H' := Aside0.mk H
             clear H
             go_wp2
             go_roundg k3
             case measure => have := HK1.out; have := HK2.out; have := HK3.out; omega
             case rel => exact ⟨(x3_3), (wrap64 (x21_2 + 1)), (by first | rfl | (simp; done) | (simp [*]; done)), H', ⟨by have := HK1.out; have := HK2.out; have := HK3.out; omega⟩, ⟨by (with_reducible repeat (first | apply Kd.S_alloc | apply Kd.S_drewN | apply Kd.S_drew)); exact Kd.S_mono HO_3.out (fun _ hk => hk.1)⟩, ⟨by (with_reducible repeat (first | apply Kd.S_alloc | apply Kd.S_drewN | apply Kd.S_drew)); exact Kd.S_mono HO_19.out (fun _ hk => hk.1)⟩, ⟨by repeat (first | exact HB.out | apply bA | apply bN | apply bD)⟩⟩
         ·rw [if_neg c15] at H
          exact absurd H (by simp)
        ·rw [if_neg c14] at H
         exact absurd H (by simp)
       ·rw [if_neg c13] at H
        have c13b0 : decide (x21_2 < (t209.length : Int)) = false := decide_eq_false c13
        clear c13
        have H' := Aside0.mk H
        clear H
        go_wp2
        go_roundg k2
        case measure => have := HK1.out; have := HK2.out; omega
        case rel => exact ⟨(x3_2), (wrap64 (x15_1 + 1)), (by first | rfl | (simp; done) | (simp [*]; done)), H', ⟨by have := HK1.out; have := HK2.out; omega⟩, ⟨by (with_reducible repeat (first | apply Kd.S_alloc | apply Kd.S_drewN | apply Kd.S_drew)); exact Kd.S_mono HO_3.out (fun _ hk => trivial)⟩, ⟨by repeat (first | exact HB.out | apply bA | apply bN | apply bD)⟩⟩
    ·rw [if_neg c9] at H
     have c9b0 : decide (x15_1 < a0) = false := decide_eq_false c9
     clear c9
     by_cases hsp : 0 < x3_1.length
     ·rw [if_pos hsp] at H
      by_cases hsl : x3_1.length < 4611686018427387904
      ·rw [if_pos hsl] at H
       obtain rfl := Option.some.inj H
       have HSRT := Aside0.mk (slices_SortFunc_int_int.sortS HO_3.out hsp hsl)
       clear hsp hsl
       go_wp2_with (go_at_call 50; refine HSRT.out.mono ?_; rintro e w' ⟨rfl, ho_, hg_⟩; have HSN := Aside0.mk ho_; have HSG := Aside0.mk hg_; clear ho_ hg_)
       go_ret
       exact ⟨_, rfl, HSN.out, Below.grown HB.out HSG.out HB.out.size (fun k_ h_ => Kd.S_base HO_3.out k_ h_)⟩
      ·rw [if_neg hsl] at H
       cases H
     ·rw [if_neg hsp] at H
      cases H

/-! ### impl_SystemWith: function 6 -/
def impl_SystemWith.f (k : Nat) (a0 : Int) (a1 : Int) : Option (List Int × Bool) := (impl_isArches.f a0).bind fun t226 => (if t226 = true then ((impl_systems.f k a0).bind fun t227 => ((impl_in.f a1 0 (wrap64 ((t227.length : Int) - 1))).bind fun t230 => (if t230 = true then (if 0 ≤ a1 then (if a1 < (t227.length : Int) then (some (rd_L2 t227 a1, true)) else (none)) else (none)) else (some (([] : List Int), false))))) else (some (([] : List Int), false)))
theorem impl_SystemWith.mono : ∀ a0 a1 k, LeO (impl_SystemWith.f k a0 a1) (impl_SystemWith.f (k + 1) a0 a1) := by
 intro a0 a1 k
 unfold impl_SystemWith.f
 repeat' first
   | (with_reducible exact impl_systems.mono _ _)
   | (with_reducible exact LeO.refl _)
   | (with_reducible exact LeO.none _)
   | (with_reducible refine LeO.ite ?_ ?_)
   | (with_reducible refine LeO.bind ?_ (fun _ => ?_))
   | exact LeO.none _
   | refine LeO.ite ?_ ?_
   | refine LeO.bind ?_ (fun _ => ?_)
theorem impl_SystemWith.calls (k : Nat) (a0 : Int) (a1 : Int) (r1 : List Int) (r2 : Bool) (w : World) (h : impl_SystemWith.f k a0 a1 = some (r1, r2)) :
  Calls Try.prog 6 #[.int .i64 a0, .int .i64 a1] w fun e w' => ∃ v0_ : Value, e = .returned (.tuple #[v0_, .bool r2]) ∧ Kd.R (Kd.int .i64) 3 w' w.heap.size (fun _ => True) v0_ r1 ∧ Below w.heap.size w w' := by
 have HB := Aside0.mk (Below.refl w.heap.size w)
 have H : ((impl_isArches.f a0).bind fun t226 => (if t226 = true then ((impl_systems.f k a0).bind fun t227 => ((impl_in.f a1 0 (wrap64 ((t227.length : Int) - 1))).bind fun t230 => (if t230 = true then (if 0 ≤ a1 then (if a1 < (t227.length : Int) then (some (rd_L2 t227 a1, true)) else (none)) else (none)) else (some (([] : List Int), false))))) else (some (([] : List Int), false)))) = some (r1, r2) := h
 clear h
 replace H := Option.bind_eq_some_iff.mp H
 obtain ⟨t226, A30, H⟩ := H
 replace H : (if t226 = true then ((impl_systems.f k a0).bind fun t227 => ((impl_in.f a1 0 (wrap64 ((t227.length : Int) - 1))).bind fun t230 => (if t230 = true then (if 0 ≤ a1 then (if a1 < (t227.length : Int) then (some (rd_L2 t227 a1, true)) else (none)) else (none)) else (some (([] : List Int), false))))) else (some (([] : List Int), false))) = some (r1, r2) := H
 have A3 := Aside0.mk A30
 clear A30
 by_cases c4 : t226 = true
 ·subst c4
  have H1 : ((impl_systems.f k a0).bind fun t227 => ((impl_in.f a1 0 (wrap64 ((t227.length : Int) - 1))).bind fun t230 => (if t230 = true then (if 0 ≤ a1 then (if a1 < (t227.length : Int) then (some (rd_L2 t227 a1, true)) else (none)) else (none)) else (some (([] : List Int), false))))) = some (r1, r2) := by rw [if_pos rfl] at H; exact H
  clear H
  have H := H1
  clear H1
  replace H := Option.bind_eq_some_iff.mp H
  obtain ⟨t227, A50, H⟩ := H
  replace H : ((impl_in.f a1 0 (wrap64 ((t227.length : Int) - 1))).bind fun t230 => (if t230 = true then (if 0 ≤ a1 then (if a1 < (t227.length : Int) then (some (rd_L2 t227 a1, true)) else (none)) else (none)) else (some (([] : List Int), false)))) = some (r1, r2) := H
  have A5 := Aside0.mk A50
  clear A50
  replace H := Option.bind_eq_some_iff.mp H
  obtain ⟨t230, A60, H⟩ := H
  replace H : (if t230 = true then (if 0 ≤ a1 then (if a1 < (t227.length : Int) then (some (rd_L2 t227 a1, true)) else (none)) else (none)) else (some (([] : List Int), false))) = some (r1, r2) := H
  have A6 := Aside0.mk A60
  clear A60
  by_cases c7 : t230 = true
  ·subst c7
   have H1 : (if 0 ≤ a1 then (if a1 < (t227.length : Int) then (some (rd_L2 t227 a1, true)) else (none)) else (none)) = some (r1, r2) := by rw [if_pos rfl] at H; exact H
   clear H
   have H := H1
   clear H1
   by_cases c8 : 0 ≤ a1
   ·rw [if_pos c8] at H
    have c8b0 : decide (0 ≤ a1) = true := decide_eq_true c8
    clear c8
    by_cases c9 : a1 < (t227.length : Int)
    ·rw [if_pos c9] at H
     have c9b0 : decide (a1 < (t227.length : Int)) = true := decide_eq_true c9
     clear c9
     simp only [Option.some.injEq, Prod.mk.injEq] at H
     obtain ⟨rfl, rfl⟩ := H
     go_enter Try.func6, Try.ntmps6
     go_wp2_with (first | ((with_reducible refine gate_callee (f := 31) rfl ?_); refine goesL_ (some 8) rfl rfl Try.func31 (by kernel_rfl) rfl #[.int .i64 a0] rfl (by (try simp only [List.map_toArray, List.map_cons, List.map_nil]); first | done | rfl) ?_; (with_reducible refine (impl_isArches.calls a0 true _ A3.out).mono ?_); rintro e w' ⟨rfl, ⟨nd, rfl⟩⟩; refine ⟨_, rfl, ?_⟩) | ((with_reducible refine gate_callee (f := 32) rfl ?_); refine goesL_ (some 11) rfl rfl Try.func32 (by kernel_rfl) rfl #[.int .i64 a0] rfl (by (try simp only [List.map_toArray, List.map_cons, List.map_nil]); first | done | rfl) ?_; (with_reducible refine (impl_systems.calls k a0 t227 _ A5.out).mono ?_); rintro e w10 ⟨v228, rfl, ho0, hb⟩; refine ⟨_, rfl, ?_⟩; have HO229 := Aside0.mk (Kd.S_lower ho0 (below_size (by repeat (first | exact HB.out | apply bA | apply bN | apply bD)))); replace HB := Aside0.mk (below_step (by repeat (first | exact HB.out | apply bA | apply bN | apply bD)) hb); (try clear hb2); (try clear hb hk hi); (try clear ho0); obtain ⟨Ao11, co11, eo11⟩ := Kd.S_slice HO229.out; subst eo11) | ((with_reducible refine gate_callee (f := 33) rfl ?_); refine goesL_ (some 16) rfl rfl Try.func33 (by kernel_rfl) rfl #[.int .i64 a1, .int .i64 0, .int .i64 (wrap64 ((t227.length : Int) - 1))] rfl (by (try simp only [List.map_toArray, List.map_cons, List.map_nil]); first | done | rfl) ?_; (with_reducible refine (impl_in.calls a1 0 (wrap64 ((t227.length : Int) - 1)) true _ A6.out).mono ?_); rintro e w' ⟨rfl, ⟨nd, rfl⟩⟩; refine ⟨_, rfl, ?_⟩; have p231 : 0 ≤ (a1 : Int) := of_decide_eq_true (by assumption); have q231 : a1 < (t227.length : Int) := of_decide_eq_true (by assumption); obtain ⟨ad231, A231_0, c231_0, e231, hx231_0, hl231_0, hi231_0⟩ := at_L2 (Kd.S_reads' HO229.out).2.2 a1 p231 q231; cases e231; obtain ⟨ce231, hce231, hMe231, hcc231⟩ := Kd.S_get HO229.out [] a1 p231 (by first | exact q231 | exact of_decide_eq_true (by assumption) | (have e_ := (Kd.S_reads' HO229.out).1; omega)); obtain ⟨ve231_0, rfl, ge231_0⟩ := hMe231; have hv231_0 := hcc231 0 _ rfl; rw [Nat.add_zero, show ((Kd.slice 3 (Kd.int .i64))).sz = 1 from rfl, Nat.mul_one] at hv231_0; replace hv231_0 := Option.some.inj (hv231_0.symm.trans hx231_0); rw [hv231_0] at ge231_0; have HL231_0 := Aside0.mk (show Kd.R (Kd.int .i64) 3 _ _ _ _ (rd_L2 t227 a1) from ge231_0); clear hv231_0 ge231_0; clear hcc231 hce231; have HR231_0 := Aside0.mk hi231_0; have HC231_0 := Aside0.mk hl231_0; clear hi231_0 hl231_0; replace p231 := eq_true p231; replace q231 := eq_true q231))
     go_ret2
     exact ⟨_, by first | rfl | (simp [*, errW_none, errW_some] <;> rfl), by (with_reducible repeat (first | apply rA | apply rN | apply rD)); exact Kd.R_mono HL231_0.out (fun _ hk => trivial), by repeat (first | exact HB.out | apply bA | apply bN | apply bD)⟩
    ·rw [if_neg c9] at H
     exact absurd H (by simp)
   ·rw [if_neg c8] at H
    exact absurd H (by simp)
  ·replace c7 := Bool.eq_false_iff.mpr c7
   subst c7
   have H1 : (some (([] : List Int), false)) = some (r1, r2) := by rw [if_neg (show ¬ (false = true) by decide)] at H; exact H
   clear H
   have H := H1
   clear H1
   simp only [Option.some.injEq, Prod.mk.injEq] at H
   obtain ⟨rfl, rfl⟩ := H
   go_enter Try.func6, Try.ntmps6
   go_wp2_with (first | ((with_reducible refine gate_callee (f := 31) rfl ?_); refine goesL_ (some 8) rfl rfl Try.func31 (by kernel_rfl) rfl #[.int .i64 a0] rfl (by (try simp only [List.map_toArray, List.map_cons, List.map_nil]); first | done | rfl) ?_; (with_reducible refine (impl_isArches.calls a0 true _ A3.out).mono ?_); rintro e w' ⟨rfl, ⟨nd, rfl⟩⟩; refine ⟨_, rfl, ?_⟩) | ((with_reducible refine gate_callee (f := 32) rfl ?_); refine goesL_ (some 11) rfl rfl Try.func32 (by kernel_rfl) rfl #[.int .i64 a0] rfl (by (try simp only [List.map_toArray, List.map_cons, List.map_nil]); first | done | rfl) ?_; (with_reducible refine (impl_systems.calls k a0 t227 _ A5.out).mono ?_); rintro e w12 ⟨v228, rfl, ho0, hb⟩; refine ⟨_, rfl, ?_⟩; have HO229 := Aside0.mk (Kd.S_lower ho0 (below_size (by repeat (first | exact HB.out | apply bA | apply bN | apply bD)))); replace HB := Aside0.mk (below_step (by repeat (first | exact HB.out | apply bA | apply bN | apply bD)) hb); (try clear hb2); (try clear hb hk hi); (try clear ho0); obtain ⟨Ao13, co13, eo13⟩ := Kd.S_slice HO229.out; subst eo13) | ((with_reducible refine gate_callee (f := 33) rfl ?_); refine goesL_ (some 16) rfl rfl Try.func33 (by kernel_rfl) rfl #[.int .i64 a1, .int .i64 0, .int .i64 (wrap64 ((t227.length : Int) - 1))] rfl (by (try simp only [List.map_toArray, List.map_cons, List.map_nil]); first | done | rfl) ?_; (with_reducible refine (impl_in.calls a1 0 (wrap64 ((t227.length : Int) - 1)) false _ A6.out).mono ?_); rintro e w' ⟨rfl, ⟨nd, rfl⟩⟩; refine ⟨_, rfl, ?_⟩))
   go_ret2
   exact ⟨_, by first | rfl | (simp [*, errW_none, errW_some] <;> rfl), by first | exact Kd.R_nil _ _ _ _ _ | exact Kd.N_nil _ _ _ _ _ | exact Kd.V_nil _ _ _ _ _ | exact Kd.Q_nil _ _ _ _ _ | exact Kd.S_nil _ _ _ _ _, by repeat (first | exact HB.out | apply bA | apply bN | apply bD)⟩
 ·replace c4 := Bool.eq_false_iff.mpr c4
  subst c4
  have H1 : (some (([] : List Int), false)) = some (r1, r2) := by rw [if_neg (show ¬ (false = true) by decide)] at H; exact H
  clear H
  have H := H1
  clear H1
  simp only [Option.some.injEq, Prod.mk.injEq] at H
  obtain ⟨rfl, rfl⟩ := H
  go_enter Try.func6, Try.ntmps6
  go_wp2_with (first | ((with_reducible refine gate_callee (f := 31) rfl ?_); refine goesL_ (some 8) rfl rfl Try.func31 (by kernel_rfl) rfl #[.int .i64 a0] rfl (by (try simp only [List.map_toArray, List.map_cons, List.map_nil]); first | done | rfl) ?_; (with_reducible refine (impl_isArches.calls a0 false _ A3.out).mono ?_); rintro e w' ⟨rfl, ⟨nd, rfl⟩⟩; refine ⟨_, rfl, ?_⟩))
  go_ret2
  exact ⟨_, by first | rfl | (simp [*, errW_none, errW_some] <;> rfl), by first | exact Kd.R_nil _ _ _ _ _ | exact Kd.N_nil _ _ _ _ _ | exact Kd.V_nil _ _ _ _ _ | exact Kd.Q_nil _ _ _ _ _ | exact Kd.S_nil _ _ _ _ _, by repeat (first | exact HB.out | apply bA | apply bN | apply bD)⟩

end Go.Proofs.Ytpbadjdeghmenaa.QFnSystemsListed
