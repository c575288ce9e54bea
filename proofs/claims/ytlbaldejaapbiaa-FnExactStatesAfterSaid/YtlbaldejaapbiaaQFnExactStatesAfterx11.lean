-- Written by wip/myprint.py (a program of mine round the kit's printer). Lean checks it.
import Derived.Shelf.SlSortCmp.WholeK
import Derived.Ground.SlsfProg
import Derived.Shelf.SlGeneric
import Derived.Sort.WalkA
import Derived.Sort.WalkB2
import Derived.Sort.WalkB12
import Derived.Deep.LoopGhost
import Derived.Shelf.RegionOpenPlain
import Derived.Test.YtlbaldejaapbiaaQFnExactStatesAfterx0
import Derived.Test.YtlbaldejaapbiaaQFnExactStatesAfterx7
import Derived.Test.YtlbaldejaapbiaaQFnExactStatesAfterx8
import Derived.Test.YtlbaldejaapbiaaQFnExactStatesAfterx10
namespace Go.Proofs.Ytlbaldejaapbiaa.QFnExactStatesAfter
open Go.RowKit Go.Proofs.YtlbaldejaapbiaaW.PrintWords Go.Proofs.YtlbaldejaapbiaaW.PrintLast Go.Proofs.YtlbaldejaapbiaaW.PrintMore
attribute [local go_sem] max2_int min2_int max_two min_two max_three min_three max_four min_four
set_option linter.unusedVariables false
set_option linter.unusedSimpArgs false
def sSf.sortK_ren : Go.Shelf.Ren := ⟨fun | 6 => 77 | 15 => 83 | 14 => 82 | 28 => 96 | 29 => 97 | 20 => 88 | 21 => 89 | 22 => 90 | 23 => 91 | 24 => 92 | 25 => 93 | 26 => 94 | 27 => 95 | 46 => 100 | 47 => 101 | 48 => 102 | 49 => 103 | 50 => 104 | 57 => 105 | n => n, fun | 22 => 49 | 24 => 27 | 25 => 85 | 3 => 3 | 39 => 90 | 0 => 0 | 53 => 101 | 55 => 103 | 4 => 4 | 46 => 95 | 45 => 94 | 50 => 31 | 5 => 5 | 9 => 9 | 66 => 104 | 70 => 108 | 76 => 110 | 77 => 111 | n => n, fun | n => n⟩
theorem sSf.sortK : Go.Proofs.SlLaysF0.n6 Go.Proofs.Try.prog sSf.sortK_ren := {
  mixed := by kernel_rfl
  f6 := ⟨Go.Proofs.Try.f77.name, by decide, Go.Proofs.Try.func77.trans (congrArg some (by kernel_rfl))⟩
  f14 := ⟨Go.Proofs.Try.f82.name, by decide, Go.Proofs.Try.func82.trans (congrArg some (by kernel_rfl))⟩
  f15 := Go.Proofs.Try.func83.trans (congrArg some (by kernel_rfl))
  f20 := ⟨Go.Proofs.Try.f88.name, by decide, Go.Proofs.Try.func88.trans (congrArg some (by kernel_rfl))⟩
  f21 := ⟨Go.Proofs.Try.f89.name, by decide, Go.Proofs.Try.func89.trans (congrArg some (by kernel_rfl))⟩
  f22 := ⟨Go.Proofs.Try.f90.name, by decide, Go.Proofs.Try.func90.trans (congrArg some (by kernel_rfl))⟩
  f23 := ⟨Go.Proofs.Try.f91.name, by decide, Go.Proofs.Try.func91.trans (congrArg some (by kernel_rfl))⟩
  f24 := ⟨Go.Proofs.Try.f92.name, by decide, Go.Proofs.Try.func92.trans (congrArg some (by kernel_rfl))⟩
  f25 := ⟨Go.Proofs.Try.f93.name, by decide, Go.Proofs.Try.func93.trans (congrArg some (by kernel_rfl))⟩
  f26 := ⟨Go.Proofs.Try.f94.name, by decide, Go.Proofs.Try.func94.trans (congrArg some (by kernel_rfl))⟩
  f27 := ⟨Go.Proofs.Try.f95.name, by decide, Go.Proofs.Try.func95.trans (congrArg some (by kernel_rfl))⟩
  f28 := Go.Proofs.Try.func96.trans (congrArg some (by kernel_rfl))
  f29 := Go.Proofs.Try.func97.trans (congrArg some (by kernel_rfl))
  f46 := ⟨Go.Proofs.Try.f100.name, by decide, Go.Proofs.Try.func100.trans (congrArg some (by kernel_rfl))⟩
  f47 := Go.Proofs.Try.func101.trans (congrArg some (by kernel_rfl))
  f48 := Go.Proofs.Try.func102.trans (congrArg some (by kernel_rfl))
  f49 := ⟨Go.Proofs.Try.f103.name, by decide, Go.Proofs.Try.func103.trans (congrArg some (by kernel_rfl))⟩
  f50 := ⟨Go.Proofs.Try.f104.name, by decide, Go.Proofs.Try.func104.trans (congrArg some (by kernel_rfl))⟩
  f57 := ⟨Go.Proofs.Try.f105.name, by decide, Go.Proofs.Try.func105.trans (congrArg some (by kernel_rfl))⟩
  t0 := Go.Proofs.Try.underlying0
  a0 := Go.Proofs.Try.isAgg0
  z0 := Go.Proofs.Try.sizeOf0
  v0 := Go.Proofs.Try.zeroValue0
  t3 := Go.Proofs.Try.underlying3
  a3 := Go.Proofs.Try.isAgg3
  z3 := Go.Proofs.Try.sizeOf3
  v3 := Go.Proofs.Try.zeroValue3
  t4 := Go.Proofs.Try.underlying4
  a4 := Go.Proofs.Try.isAgg4
  z4 := Go.Proofs.Try.sizeOf4
  v4 := Go.Proofs.Try.zeroValue4
  t5 := Go.Proofs.Try.underlying5
  a5 := Go.Proofs.Try.isAgg5
  z5 := Go.Proofs.Try.sizeOf5
  v5 := Go.Proofs.Try.zeroValue5
  t9 := Go.Proofs.Try.underlying9
  a9 := Go.Proofs.Try.isAgg9
  z9 := Go.Proofs.Try.sizeOf9
  v9 := Go.Proofs.Try.zeroValue9
  t22 := Go.Proofs.Try.underlying49
  a22 := Go.Proofs.Try.isAgg49
  z22 := Go.Proofs.Try.sizeOf49
  v22 := Go.Proofs.Try.zeroValue49
  t25 := Go.Proofs.Try.underlying85
  a25 := Go.Proofs.Try.isAgg85
  z25 := Go.Proofs.Try.sizeOf85
  v25 := Go.Proofs.Try.zeroValue85
  t39 := Go.Proofs.Try.underlying90
  a39 := Go.Proofs.Try.isAgg90
  z39 := Go.Proofs.Try.sizeOf90
  v39 := Go.Proofs.Try.zeroValue90
  t45 := Go.Proofs.Try.underlying94
  a45 := Go.Proofs.Try.isAgg94
  z45 := Go.Proofs.Try.sizeOf94
  v45 := Go.Proofs.Try.zeroValue94
  t46 := Go.Proofs.Try.underlying95
  a46 := Go.Proofs.Try.isAgg95
  z46 := Go.Proofs.Try.sizeOf95
  v46 := Go.Proofs.Try.zeroValue95
  t50 := Go.Proofs.Try.underlying31
  a50 := Go.Proofs.Try.isAgg31
  z50 := Go.Proofs.Try.sizeOf31
  v50 := Go.Proofs.Try.zeroValue31
  t53 := Go.Proofs.Try.underlying101
  a53 := Go.Proofs.Try.isAgg101
  z53 := Go.Proofs.Try.sizeOf101
  v53 := Go.Proofs.Try.zeroValue101
  t55 := Go.Proofs.Try.underlying103
  a55 := Go.Proofs.Try.isAgg103
  z55 := Go.Proofs.Try.sizeOf103
  v55 := Go.Proofs.Try.zeroValue103
  t66 := Go.Proofs.Try.underlying104
  a66 := Go.Proofs.Try.isAgg104
  z66 := Go.Proofs.Try.sizeOf104
  v66 := Go.Proofs.Try.zeroValue104
  t70 := Go.Proofs.Try.underlying108
  a70 := Go.Proofs.Try.isAgg108
  z70 := Go.Proofs.Try.sizeOf108
  v70 := Go.Proofs.Try.zeroValue108
  t76 := Go.Proofs.Try.underlying110
  a76 := Go.Proofs.Try.isAgg110
  z76 := Go.Proofs.Try.sizeOf110
  v76 := Go.Proofs.Try.zeroValue110
  t77 := Go.Proofs.Try.underlying111
  a77 := Go.Proofs.Try.isAgg111
  z77 := Go.Proofs.Try.sizeOf111
  v77 := Go.Proofs.Try.zeroValue111 }
def lexC : List Int → List Int → Int
  | [], [] => 0
  | [], _ :: _ => -1
  | _ :: _, [] => 1
  | a :: as_, b :: bs_ => if a < b then -1 else if b < a then 1 else lexC as_ bs_
theorem lexC_refl : ∀ a, lexC a a = 0
  | [] => rfl
  | a :: as_ => by simp only [lexC]; rw [if_neg (by omega), if_neg (by omega)]; exact lexC_refl as_
theorem lexC_trans : ∀ a b c, lexC a b < 0 → lexC b c < 0 → lexC a c < 0
  | [], [], _, h, _ => by simp [lexC] at h
  | [], _ :: _, [], _, h => by simp [lexC] at h
  | [], _ :: _, _ :: _, _, _ => by simp [lexC]
  | _ :: _, [], _, h, _ => by simp [lexC] at h
  | _ :: _, _ :: _, [], _, h => by simp [lexC] at h
  | a :: as_, b :: bs_, c :: cs_, h1, h2 => by
    simp only [lexC] at *
    by_cases x : a < b
    · by_cases y : b < c
      · rw [if_pos (by omega)]; omega
      · rw [if_neg y] at h2
        by_cases z : c < b
        · rw [if_pos z] at h2; omega
        · rw [if_pos (by omega)]; omega
    · rw [if_neg x] at h1
      by_cases x' : b < a
      · rw [if_pos x'] at h1; omega
      · rw [if_neg x'] at h1
        by_cases y : b < c
        · rw [if_pos (by omega)]; omega
        · rw [if_neg y] at h2
          by_cases z : c < b
          · rw [if_pos z] at h2; omega
          · rw [if_neg z] at h2
            rw [if_neg (by omega), if_neg (by omega)]
            exact lexC_trans as_ bs_ cs_ h1 h2
theorem lexC_ntrans : ∀ a b c, ¬ lexC a b < 0 → ¬ lexC b c < 0 → ¬ lexC a c < 0
  | [], [], _, _, h => h
  | [], _ :: _, _, h, _ => by simp [lexC] at h
  | _ :: _, [], [], _, _ => by simp [lexC]
  | _ :: _, [], _ :: _, _, h => by simp [lexC] at h
  | _ :: _, _ :: _, [], _, _ => by simp [lexC]
  | a :: as_, b :: bs_, c :: cs_, h1, h2 => by
    simp only [lexC] at *
    by_cases x : a < b
    · rw [if_pos x] at h1; omega
    · rw [if_neg x] at h1
      by_cases y : b < c
      · rw [if_pos y] at h2; omega
      · rw [if_neg y] at h2
        rw [if_neg (by omega)]
        by_cases x' : b < a
        · rw [if_pos (by omega)]; omega
        · rw [if_neg x'] at h1
          by_cases z : c < b
          · rw [if_pos (by omega)]; omega
          · rw [if_neg z] at h2
            rw [if_neg (by omega)]
            exact lexC_ntrans as_ bs_ cs_ h1 h2
theorem lexC_eq : ∀ a b, ¬ lexC a b < 0 → ¬ lexC b a < 0 → a = b
  | [], [], _, _ => rfl
  | [], _ :: _, h, _ => by simp [lexC] at h
  | _ :: _, [], _, h => by simp [lexC] at h
  | a :: as_, b :: bs_, h1, h2 => by
    simp only [lexC] at *
    by_cases x : a < b
    · rw [if_pos x] at h1; omega
    · by_cases y : b < a
      · rw [if_pos y] at h2; omega
      · rw [if_neg x, if_neg y] at h1
        rw [if_neg y, if_neg x] at h2
        obtain rfl : a = b := by omega
        rw [lexC_eq as_ bs_ h1 h2]
def rowIns (x : List Int) : List (List Int) → List (List Int)
  | [] => [x]
  | y :: ys => if lexC y x < 0 then y :: rowIns x ys else x :: y :: ys
def rowSort (xs : List (List Int)) : List (List Int) := xs.foldr rowIns []
theorem rowIns_perm (x : List Int) : ∀ ys, (rowIns x ys).Perm (x :: ys)
  | [] => List.Perm.refl _
  | y :: ys => by
    unfold rowIns
    split
    · exact (List.Perm.cons y (rowIns_perm x ys)).trans (List.Perm.swap x y ys)
    · exact List.Perm.refl _
theorem rowSort_perm : ∀ xs, (rowSort xs).Perm xs
  | [] => List.Perm.refl _
  | x :: xs => (rowIns_perm x _).trans (List.Perm.cons x (rowSort_perm xs))
def RowsUp (xs : List (List Int)) : Prop := xs.Pairwise fun a b => ¬ lexC b a < 0
theorem rowIns_up (x : List Int) : ∀ ys, RowsUp ys → RowsUp (rowIns x ys)
  | [], _ => by simp [rowIns, RowsUp]
  | y :: ys, h => by
    have h1 := List.pairwise_cons.1 h
    unfold rowIns
    split
    · rename_i hlt
      refine List.pairwise_cons.2 ⟨fun z hz => ?_, rowIns_up x ys h1.2⟩
      rcases List.mem_cons.1 ((rowIns_perm x ys).mem_iff.1 hz) with rfl | hz
      · intro h2
        have := lexC_trans _ _ _ hlt h2
        rw [lexC_refl] at this
        omega
      · exact h1.1 z hz
    · rename_i hge
      refine List.pairwise_cons.2 ⟨fun z hz => ?_, h⟩
      rcases List.mem_cons.1 hz with rfl | hz
      · exact hge
      · exact lexC_ntrans _ _ _ (h1.1 z hz) hge
theorem rowSort_up : ∀ xs, RowsUp (rowSort xs)
  | [] => by simp [rowSort, RowsUp]
  | x :: xs => rowIns_up x _ (rowSort_up xs)
theorem rows_unique : ∀ {xs ys : List (List Int)}, xs.Perm ys → RowsUp xs → RowsUp ys → xs = ys
  | [], ys, h, _, _ => (List.Perm.nil_eq h)
  | x :: xs, [], h, _, _ => by have := h.length_eq; simp at this
  | x :: xs, y :: ys, h, hx, hy => by
    have hx1 := List.pairwise_cons.1 hx
    have hy1 := List.pairwise_cons.1 hy
    have e : x = y := by
      rcases List.mem_cons.1 (h.mem_iff.1 (List.mem_cons_self)) with e | hm
      · exact e
      · rcases List.mem_cons.1 (h.mem_iff.2 (List.mem_cons_self)) with e | hm2
        · exact e.symm
        · exact lexC_eq _ _ (hy1.1 _ hm) (hx1.1 _ hm2)
    subst e
    rw [rows_unique ((List.perm_cons x).1 h) hx1.2 hy1.2]
theorem slices_Compare_int_int.w64_ {x : Int} (h1 : -9223372036854775808 ≤ x) (h2 : x < 9223372036854775808) : wrap64 x = x := by unfold wrap64; omega
theorem slices_Compare_int_int.cmp_ (a b : Int) : cmp_Compare_int.f a b = some (if a < b then -1 else if b < a then 1 else 0) := by
  simp only [cmp_Compare_int.f, cmp_isNaN_int.f, Option.bind_some, bne_self_eq_false, Bool.false_eq_true, if_false]
  by_cases h1 : a < b
  · rw [if_pos h1, if_pos h1]
  · by_cases h2 : b < a
    · rw [if_neg h1, if_neg h1, if_pos h2, if_pos h2]
    · rw [if_neg h1, if_neg h1, if_neg h2, if_neg h2]
theorem slices_Compare_int_int.rd_ (l : List Int) (i : Nat) (h : i < l.length) : l.drop i = rd l (i : Int) :: l.drop (i + 1) := by
  rw [List.drop_eq_getElem_cons h]
  unfold rd
  rw [Int.toNat_natCast, List.getD_eq_getElem?_getD, List.getElem?_eq_getElem h]; rfl
theorem slices_Compare_int_int.lex_at (l0 l1 : List Int) (h0 : l0.length ≤ 9223372036854775807) (h1 : l1.length ≤ 9223372036854775807) :
    ∀ (d i : Nat), i + d = l0.length → i ≤ l1.length → slices_Compare_int_int.l0 (d + 1) l0 l1 l0 (l0.length : Int) (i : Int) = some (lexC (l0.drop i) (l1.drop i))
  | 0, i, hd, hi => by
    obtain rfl : i = l0.length := by omega
    simp only [slices_Compare_int_int.l0]
    rw [if_neg (by omega), List.drop_length]
    by_cases h : l0.length < l1.length
    · rw [if_pos (by omega), slices_Compare_int_int.rd_ l1 _ h]; rfl
    · rw [if_neg (by omega), List.drop_eq_nil_of_le (by omega)]; rfl
  | d + 1, i, hd, hi => by
    have hi0 : i < l0.length := by omega
    rw [slices_Compare_int_int.l0]
    rw [if_pos (by omega), if_pos (by omega), if_pos (by omega)]
    by_cases h : i < l1.length
    · rw [if_neg (by omega), if_pos (by omega), slices_Compare_int_int.cmp_, Option.bind_some, slices_Compare_int_int.rd_ l0 i hi0, slices_Compare_int_int.rd_ l1 i h]
      simp only [lexC]
      by_cases x : rd l0 (i : Int) < rd l1 (i : Int)
      · rw [if_pos x, if_neg (by omega), if_pos x]
      · by_cases y : rd l1 (i : Int) < rd l0 (i : Int)
        · rw [if_neg x, if_pos y, if_neg (by omega), if_neg x, if_pos y]
        · rw [if_neg x, if_neg y, if_pos rfl, if_neg x, if_neg y, slices_Compare_int_int.w64_ (by omega) (by omega)]
          exact slices_Compare_int_int.lex_at l0 l1 h0 h1 d (i + 1) (by omega) (by omega)
    · rw [if_pos (by omega), slices_Compare_int_int.rd_ l0 i hi0, List.drop_eq_nil_of_le (by omega : l1.length ≤ i)]; rfl
theorem slices_Compare_int_int.lex (l0 l1 : List Int) (h0 : l0.length ≤ 9223372036854775807) (h1 : l1.length ≤ 9223372036854775807) : slices_Compare_int_int.f (l0.length + 1) l0 l1 = some (lexC l0 l1) := slices_Compare_int_int.lex_at l0 l1 h0 h1 l0.length 0 (by omega) (by omega)
section
open Go.Sort
theorem row3.chunk_get {l : List Value} {m : Nat} {c : List Value} (h : (l.drop m).take 3 = c) {i : Nat} (hi : i < 3) : l[m + i]? = c[i]? := by
  rw [← h, List.getElem?_take_of_lt hi, List.getElem?_drop]
theorem row3.chunk_of {l : List Value} {m : Nat} {c : List Value} (hc : c.length = 3) (h : ∀ i, i < 3 → l[m + i]? = c[i]?) : (l.drop m).take 3 = c := by
  apply List.ext_getElem?
  intro i
  by_cases hi : i < 3
  · rw [List.getElem?_take_of_lt hi, List.getElem?_drop, h i hi]
  · rw [List.getElem?_take_eq_none (by omega), List.getElem?_eq_none (by omega)]
theorem row3.pack {α β : Type} {G : β × α → Prop} : ∀ (xs : List α) (rows : List β), rows.length = xs.length →
    (∀ (j : Nat) (x : α) (c : β), xs[j]? = some x → rows[j]? = some c → G (c, x)) →
    ∃ L : List {p : β × α // G p}, L.map (fun a => a.1.1) = rows ∧ L.map (fun a => a.1.2) = xs
  | [], [], _, _ => ⟨[], rfl, rfl⟩
  | [], _ :: _, h, _ => by simp at h
  | _ :: _, [], h, _ => by simp at h
  | x :: xs, c :: rows, h, hg => by
    obtain ⟨L, h1, h2⟩ := row3.pack xs rows (by simpa using h) (fun j x' c' hx hc => hg (j + 1) x' c' (by simpa using hx) (by simpa using hc))
    exact ⟨⟨(c, x), hg 0 x c rfl rfl⟩ :: L, by simp [h1], by simp [h2]⟩
def row3.G {β : Type} (d : Kd β) (w : World) (ok : Nat → Prop) (g : Nat) (p : List Value × β) : Prop := Kd.FK d w (fun k => ok k ∧ some k ≠ some g) p.2 p.1
theorem row3.G_len {β : Type} {d : Kd β} (hd : d.sz = 3) {w : World} {ok : Nat → Prop} {g : Nat} {p : List Value × β} (h : row3.G d w ok g p) : p.1.length = 3 := (d.K_len (Foot.now h)).trans hd
theorem row3.G_one {β : Type} {d : Kd β} {w : World} {ok : Nat → Prop} {g : Nat} {p : List Value × β} (h : row3.G d w ok g p) : ∀ v ∈ p.1, v.oneCell' = true := d.K_one (Foot.now h)
theorem row3.open {β : Type} {d : Kd β} (hd : d.sz = 3) {w : World} {base : Nat} {ok : Nat → Prop} {v : Value} {xs : List β} (hN : Kd.N d 27 w base ok v xs) (hp : 0 < xs.length) :
    ∃ (g cap : Nat) (cur : Array Value) (L : List {p : List Value × β // row3.G d w ok g p}), v = .slice (some ⟨g, 0, none⟩) xs.length cap ∧ base ≤ g ∧ ok g ∧ w.heap[g]? = some (.cells cur 27 (0, 0)) ∧ xs.length ≤ cap ∧ cap ≤ maxLen ∧ cur.size = cap * 3 ∧
      L.map (fun a => a.1.2) = xs ∧ ∀ (j : Nat) a, L[j]? = some a → (cur.toList.drop (j * 3)).take 3 = a.1.1 := by
  obtain ⟨hok, rows, hrl, ⟨hb0, inner, ho, hr⟩, hf⟩ := hN
  have hsz : (Kd.raw d.sz).sz = 3 := hd
  rw [hsz] at ho hr
  rcases ho.2 with ⟨_, hz⟩ | ⟨g, cap, cur, rfl, hbg, hg, hncap, hcap, hcs, htake⟩
  · omega
  have hown : (Value.slice (some ⟨g, 0, none⟩) rows.length cap).ownBlock = some g := rfl
  rw [hown] at hok hf
  obtain ⟨L, hL1, hL2⟩ := row3.pack (G := row3.G d w ok g) xs rows hrl hf
  refine ⟨g, cap, cur, L, by rw [hrl], hbg, hok g rfl, hg, by omega, hcap, hcs, hL2, fun j a ha => ?_⟩
  have e1 : rows[j]? = some a.1.1 := by rw [← hL1, List.getElem?_map, ha]; rfl
  have h2 := (hr.2 j _ e1).1
  have hj : j < rows.length := (List.getElem?_eq_some_iff.1 e1).1
  rw [← htake] at h2
  rw [List.drop_take, List.take_take, Nat.min_eq_left (by omega)] at h2
  exact h2
theorem row3.close {β : Type} {d : Kd β} (hd : d.sz = 3) {w w' : World} {base : Nat} {ok : Nat → Prop} {g cap : Nat} {cur' : Array Value} (L : List {p : List Value × β // row3.G d w ok g p}) (hbg : base ≤ g) (hok : ok g) (hg : w'.heap[g]? = some (.cells cur' 27 (0, 0))) (hn : L.length ≤ cap) (hcap : cap ≤ maxLen) (hcs : cur'.size = cap * 3)
    (hL : ∀ (j : Nat) a, L[j]? = some a → (cur'.toList.drop (j * 3)).take 3 = a.1.1) (hoth : ∀ k, k < w.heap.size → k ≠ g → w'.heap[k]? = w.heap[k]?) :
    Kd.N d 27 w' base ok (.slice (some ⟨g, 0, none⟩) L.length cap) (L.map (fun a => a.1.2)) := by
  unfold Kd.N
  rw [hd]
  refine ⟨fun k hk => ?_, L.map (fun a => a.1.1), by simp, ⟨fun k hk => hk.symm, cur'.toList.take (L.length * 3), ⟨?_, .inr ⟨g, cap, cur', by simp, hbg, hg, by simpa using hn, hcap, hcs, by simp; rfl⟩⟩, ?_, fun j p hj => ?_⟩, fun j x c hx hc => ?_⟩
  · have : g = k := by simpa [Value.ownBlock] using hk
    exact this ▸ hok
  · have : L.length * 3 ≤ cur'.size := by rw [hcs]; omega
    simp [show (Kd.raw 3).sz = 3 from rfl]; omega
  · have : L.length * 3 ≤ cur'.size := by rw [hcs]; omega
    simp [show (Kd.raw 3).sz = 3 from rfl]; omega
  · rw [List.getElem?_map] at hj
    obtain ⟨a, ha, rfl⟩ := Option.map_eq_some_iff.1 hj
    have hjl : j < L.length := (List.getElem?_eq_some_iff.1 ha).1
    have e : ((cur'.toList.take (L.length * 3)).drop (j * 3)).take 3 = a.1.1 := by
      rw [List.drop_take, List.take_take, Nat.min_eq_left (by omega)]
      exact hL j a ha
    show (Kd.raw 3).M _ _ _ _ (((cur'.toList.take (L.length * 3)).drop (j * 3)).take 3)
    rw [e]
    exact ⟨rfl, row3.G_len hd a.2, row3.G_one a.2⟩
  · rw [List.getElem?_map] at hx hc
    obtain ⟨a, ha, rfl⟩ := Option.map_eq_some_iff.1 hx
    rw [ha] at hc
    obtain rfl := Option.some.inj hc
    exact Kd.FK_step a.2 (fun k hk hlt => hoth k hlt (fun e => hk.2 (by rw [e]; rfl)))
theorem row3.holds {β : Type} {d : Kd β} (hd : d.sz = 3) {w : World} {ok : Nat → Prop} {g : Nat} {cur : Array Value} [Inhabited {p : List Value × β // row3.G d w ok g p}] (L : List {p : List Value × β // row3.G d w ok g p}) (hg : w.heap[g]? = some (.cells cur 27 (0, 0)))
    (hL : ∀ (j : Nat) a, L[j]? = some a → (cur.toList.drop (j * 3)).take 3 = a.1.1) : HoldsK (fun a : {p : List Value × β // row3.G d w ok g p} => a.1.1) 3 w g 0 L.toArray := by
  intro t ht
  have ht' : t < L.length * 3 := by simpa using ht
  have hj : t / 3 < L.length := by omega
  refine ⟨?_, by simp [World.frozen?, hg]⟩
  rw [get_flatK _ _ _ _ (by simpa using ht')]
  have ha : L[t / 3]? = some L[t / 3] := List.getElem?_eq_getElem hj
  have h1 := row3.chunk_get (hL _ _ ha) (i := t % 3) (by omega)
  have e : L.toArray[t / 3]! = L[t / 3] := by rw [getElem!_pos _ _ (by simpa using hj)]; simp
  rw [e, show t / 3 * 3 + t % 3 = t by omega] at *
  have hl := row3.G_len hd (L[t / 3]).2
  have hl2 : t % 3 < (L[t / 3]).1.1.length := by rw [hl]; omega
  rw [List.getElem?_eq_getElem hl2] at h1
  simp only [World.cell?, hg, Nat.zero_add]
  simp only [Option.isSome_none, Bool.false_eq_true, if_false]
  rw [← Array.getElem?_toList, h1]
  congr 1
  exact (getElem!_pos (L[t / 3]).1.1 (t % 3) hl2).symm
theorem row3.heap_put {α : Type} [Inhabited α] (enc : α → List Value) {w : World} {g n : Nat} {os : Array Obj} {cur : Array Value} {e : TypeId} {fr : Nat × Nat} (d : Array α) (hb : w.heap[g]? = some (.cells cur e fr)) :
    (Go.Proofs.sortWorldK enc 3 w g 0 n d os).heap[g]? = some (.cells (putCells id 0 (flatK enc 3 d) cur) e fr) := by
  have hg : g < w.heap.size := (Array.getElem?_eq_some_iff.1 hb).1
  unfold Go.Proofs.sortWorldK
  rw [heap_grow_old _ _ (by simpa [putRowK] using hg)]
  simp [putRowK, putRow, mapBlock, ahead, Array.getElem?_modify, hb, onCells]
theorem row3.heap_other {α : Type} [Inhabited α] (enc : α → List Value) {w : World} {g n k : Nat} {os : Array Obj} (d : Array α) (hk : k < w.heap.size) (hne : k ≠ g) : (Go.Proofs.sortWorldK enc 3 w g 0 n d os).heap[k]? = w.heap[k]? := by
  unfold Go.Proofs.sortWorldK
  rw [heap_grow_old _ _ (by simpa [putRowK] using hk)]
  have : g ≠ k := fun e => hne e.symm
  simp [putRowK, putRow, mapBlock, ahead, Array.getElem?_modify, this]
theorem row3.grownBy_put {α : Type} [Inhabited α] (enc : α → List Value) {w : World} {g n : Nat} {os : Array Obj} (d : Array α) : w.grownBy (Go.Proofs.sortWorldK enc 3 w g 0 n d os) (some g) := by
  refine ⟨rfl, rfl, rfl, by simp [Go.Proofs.sortWorldK, putRowK], fun k hk hne => ?_⟩
  exact row3.heap_other enc d hk (fun e => hne (by rw [e]))
theorem row3.chunk_put {α : Type} [Inhabited α] (enc : α → List Value) (hk : ∀ x, (enc x).length = 3) (cur : Array Value) (d : Array α) (h : d.size * 3 ≤ cur.size) (j : Nat) (hj : j < d.size) :
    ((putCells id 0 (flatK enc 3 d) cur).toList.drop (j * 3)).take 3 = enc d[j]! := by
  refine row3.chunk_of (hk _) (fun i hi => ?_)
  have ht : j * 3 + i < d.size * 3 := by omega
  have hl : i < (enc d[j]!).length := by rw [hk]; exact hi
  rw [Array.getElem?_toList, List.getElem?_eq_getElem hl]
  have h2 := get_flatK enc 3 d (j * 3 + i) ht
  rw [show (j * 3 + i) / 3 = j by omega, show (j * 3 + i) % 3 = i by omega, getElem!_pos _ i hl] at h2
  rw [getElem!_pos _ _ (by simpa using ht)] at h2
  simp [putCells, show j * 3 + i < cur.size by omega, ht, h2]
end
section
open Go.Sort
theorem sSf.upF {α : Type} {F : Nat → Option α} (hm : ∀ k, LeO (F k) (F (k + 1))) {k : Nat} {r : α} (h : F k = some r) : ∀ m, k ≤ m → F m = some r
  | 0, hk => by
    obtain rfl : k = 0 := by omega
    exact h
  | m + 1, hk => by
    by_cases e : k = m + 1
    · rw [← e]; exact h
    · exact hm m r (sSf.upF hm h m (by omega))
theorem sSf.lex_app : ∀ (a b : List Int) (c d : List Int), a.length = b.length → lexC (a ++ c) (b ++ d) = if lexC a b = 0 then lexC c d else lexC a b
  | [], [], c, d, _ => by simp [lexC]
  | [], _ :: _, _, _, h => by simp at h
  | _ :: _, [], _, _, h => by simp at h
  | x :: a, y :: b, c, d, h => by
    by_cases h1 : x < y
    · simp [lexC, h1]
    · by_cases h2 : y < x
      · simp [lexC, h1, h2]
      · simpa [lexC, h1, h2] using sSf.lex_app a b c d (by simpa using h)
def sSf.key (x : S27) : List Int := (x.f0.length : Int) :: (x.f0 ++ x.f1)
def sSf.unkey : List Int → S27
  | [] => ⟨[], [], 0⟩
  | n :: l => ⟨l.take n.toNat, l.drop n.toNat, 0⟩
theorem sSf.unkey_key (x : S27) (h : x.f2 = 0) : sSf.unkey (sSf.key x) = x := by
  obtain ⟨a, b, c⟩ := x
  simp only at h
  subst h
  simp [sSf.key, sSf.unkey]
def sSf.states (xs : List S27) : List S27 := (rowSort (xs.map sSf.key)).map sSf.unkey
theorem sSf.or3 (a b c : Int) : cmp_Or_int.f 4 [a, b, c] = some (if a = 0 then (if b = 0 then c else b) else a) := by
  have r0 : rd [a, b, c] 0 = a := rfl
  have r1 : rd [a, b, c] 1 = b := rfl
  have r2 : rd [a, b, c] 2 = c := rfl
  have w1 : wrap64 (0 + 1) = 1 := by unfold wrap64; omega
  have w2 : wrap64 (1 + 1) = 2 := by unfold wrap64; omega
  have w3 : wrap64 (2 + 1) = 3 := by unfold wrap64; omega
  simp only [cmp_Or_int.f, cmp_Or_int.l0, List.length_cons, List.length_nil, r0, r1, r2, w1, w2, w3]
  by_cases ha : a = 0
  · by_cases hb : b = 0
    · by_cases hc : c = 0
      · simp [ha, hb, hc]
      · simp [ha, hb, hc]
    · simp [ha, hb]
  · simp [ha]
theorem sSf.cmp_key (x y : S27) (h0 : x.f0.length ≤ 9223372036854775807) (h1 : x.f1.length ≤ 9223372036854775807) (k0 : y.f0.length ≤ 9223372036854775807) (k1 : y.f1.length ≤ 9223372036854775807) :
    impl_compareStates.f (x.f0.length + x.f1.length + 5) x.f0 x.f1 x.f2 y.f0 y.f1 y.f2 = some (lexC (sSf.key x) (sSf.key y)) := by
  have e1 := sSf.upF (slices_Compare_int_int.mono x.f0 y.f0) (slices_Compare_int_int.lex x.f0 y.f0 h0 k0) (x.f0.length + x.f1.length + 5) (by omega)
  have e2 := sSf.upF (slices_Compare_int_int.mono x.f1 y.f1) (slices_Compare_int_int.lex x.f1 y.f1 h1 k1) (x.f0.length + x.f1.length + 5) (by omega)
  have e3 := fun l : List Int => fun r => fun h => sSf.upF (cmp_Or_int.mono l) (k := 4) (r := r) h (x.f0.length + x.f1.length + 5) (by omega)
  unfold impl_compareStates.f
  rw [slices_Compare_int_int.cmp_, Option.bind_some, e1, Option.bind_some, e2, Option.bind_some, e3 _ _ (sSf.or3 _ _ _), Option.bind_some]
  simp only [sSf.key, lexC]
  by_cases a : (x.f0.length : Int) < (y.f0.length : Int)
  · have a1 : x.f0.length < y.f0.length := by omega
    have a2 : ¬ y.f0.length < x.f0.length := by omega
    simp [a1, a2]
  · by_cases b : (y.f0.length : Int) < (x.f0.length : Int)
    · have a1 : y.f0.length < x.f0.length := by omega
      have a2 : ¬ x.f0.length < y.f0.length := by omega
      simp [a1, a2]
    · have a1 : ¬ y.f0.length < x.f0.length := by omega
      have a2 : ¬ x.f0.length < y.f0.length := by omega
      rw [sSf.lex_app _ _ _ _ (by omega)]
      simp [a1, a2]
theorem sSf.grow_of {w w' : World} (hb : Below w.heap.size w w') (hd : w.drawn ≤ w'.drawn) : ∃ q os', w' = Go.Sort.grow (w.drewN q) os' := by
  refine ⟨w'.drawn - w.drawn, w'.heap.extract w.heap.size w'.heap.size, ?_⟩
  have hh : w'.heap = w.heap ++ w'.heap.extract w.heap.size w'.heap.size := by
    have hsz := hb.size
    apply Array.ext_getElem?
    intro i
    by_cases hi : i < w.heap.size
    · rw [hb.block i hi, Array.getElem?_append_left hi]
    · rw [Array.getElem?_append_right (by omega), Array.getElem?_extract]
      by_cases hj : i < w'.heap.size
      · rw [if_pos (by omega)]; congr 1; omega
      · rw [if_neg (by omega), Array.getElem?_eq_none (by omega)]
  have h1 := hb.os
  have h2 := hb.tape
  have h3 := hb.output
  cases w
  cases w'
  simp only [Go.Sort.grow, World.drewN] at *
  subst h1 h2 h3
  congr 1
  omega
theorem sSf.sortG {β : Type} {d : Kd β} (hd : d.sz = 3) (π : β → S27) (hK : ∀ (W : World) (x : β) (cs : List Value), d.K W x cs → k27.K W (π x) cs) {w : World} {base : Nat} {ok : Nat → Prop} {v : Value} {xs : List β} (hN : Kd.N d 27 w base ok v xs) (h0 : ∀ x ∈ xs, (π x).f2 = 0) (hp : 0 < xs.length) (hl : xs.length < 4611686018427387904) :
    Calls Try.prog 77 #[v, .func (.func 78) #[] #[]] w fun e w' => e = .returned (.tuple #[]) ∧ ∃ ys : List β, ys.Perm xs ∧ ys.map π = sSf.states (xs.map π) ∧ Kd.N d 27 w' base ok v ys ∧ w.grownBy w' v.ownBlock := by
  obtain ⟨g, cap, cur, L, rfl, hbg, hok, hg, hncap, hcap, hcs, hL2, hch⟩ := row3.open hd hN hp
  have hgl : g < w.heap.size := (Array.getElem?_eq_some_iff.1 hg).1
  have hLl : L.length = xs.length := by rw [← hL2, List.length_map]
  haveI : Inhabited {p : List Value × β // row3.G d w ok g p} := ⟨L.get ⟨0, by omega⟩⟩
  let en : {p : List Value × β // row3.G d w ok g p} → List Value := fun a => a.1.1
  let cf : {p : List Value × β // row3.G d w ok g p} → {p : List Value × β // row3.G d w ok g p} → Int := fun a b => lexC (sSf.key (π a.1.2)) (sSf.key (π b.1.2))
  have hswo : SWO (Go.Proofs.ltOf cf) := {
    irrefl := fun x => by simp [Go.Proofs.ltOf, cf, lexC_refl]
    trans := fun x y z h1 h2 => by simp only [Go.Proofs.ltOf, decide_eq_true_eq, cf] at *; exact lexC_trans _ _ _ h1 h2
    ntrans := fun x y z h1 h2 => by simp only [Go.Proofs.ltOf, decide_eq_false_iff_not, cf] at *; exact lexC_ntrans _ _ _ h1 h2 }
  have heg : ∀ args w, (callFunc 78 args).run Try.prog w = .ok (.enter 78 args) w := fun args w => enters_of Try.func78 (by kernel_rfl) rfl args w
  have hcmp : Go.Proofs.CmpLays Try.prog 78 #[] en 3 cf g 0 L.toArray.size w := by
    intro m os dk hdk x y
    have hx := x.2 (Go.Proofs.sortWorldK en 3 w g 0 m dk os) (fun k hk hlt => row3.heap_other en dk hlt (fun e => hk.2 (by rw [e])))
    have hy := y.2 (Go.Proofs.sortWorldK en 3 w g 0 m dk os) (fun k hk hlt => row3.heap_other en dk hlt (fun e => hk.2 (by rw [e])))
    obtain ⟨A0, c0, A1, c1, e0, l0, r0, l1, r1⟩ := k27_open (hK _ _ _ hx)
    obtain ⟨B0, d0, B1, d1, f0, m0, s0, m1, s1⟩ := k27_open (hK _ _ _ hy)
    have hx1 : en x = [.slice A0 (π x.1.2).f0.length c0, .slice A1 (π x.1.2).f1.length c1, .int .i64 (π x.1.2).f2] := e0
    have hy1 : en y = [.slice B0 (π y.1.2).f0.length d0, .slice B1 (π y.1.2).f1.length d1, .int .i64 (π y.1.2).f2] := f0
    rw [hx1, hy1]
    refine (impl_compareStates.calls _ A0 c0 (π x.1.2).f0 A1 c1 (π x.1.2).f1 (π x.1.2).f2 B0 d0 (π y.1.2).f0 B1 d1 (π y.1.2).f1 (π y.1.2).f2 _ _ r0 l0 r1 l1 s0 m0 s1 m1 (sSf.cmp_key (π x.1.2) (π y.1.2) r0.2.1 r1.2.1 s0.2.1 s1.2.1)).mono ?_
    rintro e w' ⟨he, hb, hd⟩
    exact ⟨he, sSf.grow_of hb hd⟩
  have hHolds : HoldsK en 3 w g 0 L.toArray := row3.holds hd L hg hch
  have hcon := Go.Proofs.AnyQ.slices_SortFunc sSf.sortK 3 Try.isAgg27 Try.sizeOf27 en (fun a => row3.G_len hd a.2) (fun a => row3.G_one a.2) cf hswo 78 #[] g 0 cap L.toArray w heg hcmp hHolds hgl (by simp; omega)
  have hsize : L.toArray.size = xs.length := by simp; omega
  rw [hsize] at hcon
  refine (show Calls Try.prog 77 _ _ _ from hcon).mono ?_
  rintro e w' ⟨he, d', n, os, hperm, hsrt, rfl⟩
  obtain ⟨hds, _, hpm⟩ := hperm
  have hdl : d'.toList.length = xs.length := by simp [hds, hsize]
  have hpm' : d'.toList.Perm L := by
    have e1 : (d'.extract 0 xs.length) = d' := by rw [← hsize, ← hds]; simp
    have e2 : (L.toArray.extract 0 xs.length) = L.toArray := by rw [← hsize]; simp
    rw [e1, e2] at hpm
    exact hpm
  have hkeys : d'.toList.map (fun a => sSf.key (π a.1.2)) = rowSort ((xs.map π).map sSf.key) := by
    refine rows_unique ((hpm'.map _).trans ?_) ?_ (rowSort_up _)
    · rw [← hL2, List.map_map, List.map_map]; exact (rowSort_perm _).symm
    · unfold RowsUp
      rw [List.pairwise_map, List.pairwise_iff_getElem]
      intro i j hi hj hij
      have h1 := hsrt i j (Nat.zero_le _) hij (by rw [← hdl]; exact hj)
      simp only [Go.Proofs.ltOf, decide_eq_false_iff_not, cf] at h1
      rw [getElem!_pos d' i (by simpa using hi), getElem!_pos d' j (by simpa using hj)] at h1
      simpa using h1
  have hstates : (d'.toList.map (fun a => a.1.2)).map π = sSf.states (xs.map π) := by
    unfold sSf.states
    rw [← hkeys, List.map_map, List.map_map]
    refine List.map_congr_left (fun a ha => ?_)
    have hm : a.1.2 ∈ xs := by rw [← hL2]; exact List.mem_map_of_mem (hpm'.mem_iff.1 ha)
    exact (sSf.unkey_key _ (h0 _ hm)).symm
  have hd3 : d'.size * 3 ≤ cur.size := by
    have h3 : d'.size = xs.length := by simpa using hdl
    omega
  have hcl := row3.close hd (w' := Go.Proofs.sortWorldK en 3 w g 0 n d' os) d'.toList hbg hok (row3.heap_put en d' hg) (by rw [hdl]; exact hncap) hcap (by simpa [putCells] using hcs) (fun j a ha => by
    have hj : j < d'.size := by have := (List.getElem?_eq_some_iff.1 ha).1; simpa using this
    rw [row3.chunk_put en (fun a => row3.G_len hd a.2) cur d' (by omega) j hj]
    have : d'[j]! = a := by rw [getElem!_pos d' j hj]; have h2 := (List.getElem?_eq_some_iff.1 ha).2; simpa using h2
    rw [this]) (fun k hk hne => row3.heap_other en d' hk hne)
  have hpx : (d'.toList.map (fun a => a.1.2)).Perm xs := by rw [← hL2]; exact hpm'.map _
  rw [hdl] at hcl
  exact ⟨he, _, hpx, hstates, hcl, row3.grownBy_put en d'⟩
theorem sSf.sortN {w : World} {base : Nat} {ok : Nat → Prop} {v : Value} {xs : List S27} (hN : Kd.N k27 27 w base ok v xs) (h0 : ∀ x ∈ xs, x.f2 = 0) (hp : 0 < xs.length) (hl : xs.length < 4611686018427387904) :
    Calls Try.prog 77 #[v, .func (.func 78) #[] #[]] w fun e w' => e = .returned (.tuple #[]) ∧ Kd.N k27 27 w' base ok v (sSf.states xs) ∧ w.grownBy w' v.ownBlock :=
  (sSf.sortG (d := k27) rfl (fun x => x) (fun _ _ _ h => h) hN h0 hp hl).mono fun _ _ ⟨he, ys, _, h2, h3, h4⟩ => ⟨he, by rw [List.map_id', List.map_id'] at h2; rw [← h2]; exact h3, h4⟩
end
def sSf.f (xs : List S27) : Option (List S27) := if (decide (0 < xs.length) && (decide (xs.length < 4611686018427387904) && xs.all (fun x => x.f2 == 0))) = true then some (sSf.states xs) else none
theorem sSf.calls {w : World} {base : Nat} {ok : Nat → Prop} {v : Value} {xs r : List S27} (hN : Kd.N k27 27 w base ok v xs) (h : sSf.f xs = some r) :
    Calls Try.prog 77 #[v, .func (.func 78) #[] #[]] w fun e w' => e = .returned (.tuple #[]) ∧ Kd.N k27 27 w' base ok v r ∧ w.grownBy w' v.ownBlock := by
  unfold sSf.f at h
  by_cases c : (decide (0 < xs.length) && (decide (xs.length < 4611686018427387904) && xs.all (fun x => x.f2 == 0))) = true
  · rw [if_pos c] at h
    obtain rfl := Option.some.inj h
    simp only [Bool.and_eq_true, decide_eq_true_eq, List.all_eq_true, beq_iff_eq] at c
    exact sSf.sortN hN c.2.2 c.1 c.2.1
  · rw [if_neg c] at h
    cases h
section
open Go.Sort Go.Lib Go.Shelf
variable {α : Type} [Inhabited α]
def sCf.keeps (r : α → α → Bool) (d : Array α) (j : Nat) : Bool := decide (j = 0) || !(r d[j]! d[j - 1]!)
def sCf.upTo (r : α → α → Bool) (d : Array α) (m : Nat) : List α := ((List.range m).filter (sCf.keeps r d)).map (d[·]!)
theorem sCf.keeps_lt (r : α → α → Bool) (d : Array α) (j : Nat) (h : j < 1) : sCf.keeps r d j = true := by
  have : j = 0 := by omega
  subst this
  simp [sCf.keeps]
theorem sCf.upTo_succ (r : α → α → Bool) (d : Array α) (m : Nat) : sCf.upTo r d (m + 1) = sCf.upTo r d m ++ (if sCf.keeps r d m then [d[m]!] else []) := by
  unfold sCf.upTo
  rw [List.range_succ, List.filter_append, List.map_append]
  congr 1
  by_cases h : sCf.keeps r d m <;> simp [h]
theorem sCf.upTo_all (r : α → α → Bool) (d : Array α) (m : Nat) (h : ∀ j, j < m → sCf.keeps r d j = true) : sCf.upTo r d m = (List.range m).map (d[·]!) := by
  unfold sCf.upTo
  rw [List.filter_eq_self.2 (fun j hj => h j (List.mem_range.1 hj))]
theorem sCf.range_all (d : Array α) : (List.range d.size).map (d[·]!) = d.toList := by
  apply List.ext_getElem
  · simp
  · intro i h1 h2
    have hi : i < d.size := by simpa using h2
    simp [getElem!_pos, hi]
theorem sCf.upTo_len (r : α → α → Bool) (d : Array α) (m : Nat) : (sCf.upTo r d m).length ≤ m := by
  unfold sCf.upTo
  rw [List.length_map]
  exact Nat.le_trans (List.length_filter_le _ _) (by simp)
theorem sCf.set_same (d : Array α) (i : Nat) (x : α) (h : i < d.size) : (d.setIfInBounds i x)[i]! = x := by simp [h]
theorem sCf.set_other (d : Array α) (i j : Nat) (x : α) (h : j ≠ i) : (d.setIfInBounds i x)[j]! = d[j]! := by
  by_cases hj : j < d.size
  · rw [getElem!_pos _ j (by simpa using hj), getElem!_pos d j hj, Array.getElem_setIfInBounds _ , if_neg (Ne.symm h)]
  · rw [getElem!_neg _ j (by simpa using hj), getElem!_neg d j hj]
structure sCf.CInv (r : α → α → Bool) (d : Array α) (m kk : Nat) (dk : Array α) : Prop where
  size : dk.size = d.size
  len : (sCf.upTo r d m).length = kk
  lt : kk < m
  low : ∀ j, j < kk → (sCf.upTo r d m)[j]? = some dk[j]!
  high : ∀ j, kk ≤ j → dk[j]! = d[j]!
theorem sCf.CInv.start {r : α → α → Bool} {d : Array α} {k0 : Nat} (hall : ∀ j, j < k0 → sCf.keeps r d j = true) (hdup : sCf.keeps r d k0 = false) (hk : k0 < d.size) : sCf.CInv r d (k0 + 1) k0 d where
  size := rfl
  len := by rw [sCf.upTo_succ, hdup, sCf.upTo_all r d k0 hall]; simp
  lt := Nat.lt_succ_self _
  low := fun j hj => by rw [sCf.upTo_succ, hdup, sCf.upTo_all r d k0 hall]; simp [hj]
  high := fun _ _ => rfl
theorem sCf.CInv.keep {r : α → α → Bool} {d dk : Array α} {m kk : Nat} (h : sCf.CInv r d m kk dk) (hm : m < d.size) (hk : sCf.keeps r d m = true) : sCf.CInv r d (m + 1) (kk + 1) (dk.setIfInBounds kk d[m]!) where
  size := by simp [h.size]
  len := by rw [sCf.upTo_succ, hk]; simp [h.len]
  lt := by have := h.lt; omega
  low := fun j hj => by
    rw [sCf.upTo_succ, hk, if_pos rfl]
    by_cases e : j = kk
    · subst e
      rw [List.getElem?_append_right (by rw [h.len]; exact Nat.le_refl _), h.len, Nat.sub_self, sCf.set_same dk j _ (by have := h.lt; have := h.size; omega)]
      rfl
    · rw [List.getElem?_append_left (by rw [h.len]; omega), h.low j (by omega), sCf.set_other dk kk j _ e]
  high := fun j hj => by rw [sCf.set_other dk kk j _ (by omega), h.high j (by omega)]
theorem sCf.CInv.skip {r : α → α → Bool} {d dk : Array α} {m kk : Nat} (h : sCf.CInv r d m kk dk) (hk : sCf.keeps r d m = false) : sCf.CInv r d (m + 1) kk dk where
  size := h.size
  len := by rw [sCf.upTo_succ, hk]; simpa using h.len
  lt := by have := h.lt; omega
  low := fun j hj => by rw [sCf.upTo_succ, hk]; simpa using h.low j hj
  high := h.high
def sCf.go (r : α → α → Bool) : α → List α → List α
  | _, [] => []
  | p, x :: t => if r x p then sCf.go r x t else x :: sCf.go r x t
def sCf.list (r : α → α → Bool) : List α → List α
  | [] => []
  | x :: t => x :: sCf.go r x t
theorem sCf.go_snoc (r : α → α → Bool) (x : α) : ∀ (t : List α) (p : α), sCf.go r p (t ++ [x]) = sCf.go r p t ++ (if r x ((p :: t)[t.length]!) then [] else [x])
  | [], p => by simp [sCf.go]
  | y :: t, p => by
    simp only [List.cons_append, sCf.go]
    rw [sCf.go_snoc r x t y]
    have e : (p :: y :: t)[(y :: t).length]! = (y :: t)[t.length]! := by simp
    rw [e]
    by_cases h : r y p
    · rw [if_pos h, if_pos h]
    · rw [if_neg h, if_neg h, List.cons_append]
theorem sCf.upTo_list (r : α → α → Bool) (l : List α) : ∀ m, m ≤ l.length → sCf.upTo r l.toArray m = sCf.list r (l.take m)
  | 0, _ => by simp [sCf.upTo, sCf.list]
  | m + 1, h => by
    rw [sCf.upTo_succ, sCf.upTo_list r l m (by omega)]
    have e1 : l.take (m + 1) = l.take m ++ [l[m]!] := by
      rw [List.take_succ_eq_append_getElem (by omega)]; simp [show m < l.length by omega]
    rw [e1]
    cases m with
    | zero => simp [sCf.keeps, sCf.list, sCf.go]
    | succ n =>
      match l, h with
      | x :: t, h =>
        simp only [List.length_cons] at h
        have e2 : (x :: t).take (n + 1) = x :: t.take n := rfl
        rw [e2, List.cons_append, sCf.list, sCf.list, sCf.go_snoc]
        have e3 : (x :: t.take n)[(t.take n).length]! = (x :: t)[n]! := by
          have : (t.take n).length = n := by simp; omega
          rw [this, ← e2]
          rw [getElem!_pos _ n (by rw [e2]; simp; omega), getElem!_pos _ n (by simp; omega), List.getElem_take]
        rw [e3, List.cons_append]
        congr 2
        have e4 : ((x :: t).toArray)[n + 1]! = (x :: t)[n + 1]! := by simp
        have e5 : ((x :: t).toArray)[n]! = (x :: t)[n]! := by simp
        simp only [sCf.keeps, Nat.add_sub_cancel, e4, e5]
        cases hr : r ((x :: t)[n + 1]!) ((x :: t)[n]!)
        · simp
        · simp
theorem sCf.go_sub {γ : Type} (r : γ → γ → Bool) : ∀ (t : List γ) (p : γ), (sCf.go r p t).Sublist t
  | [], _ => List.Sublist.slnil
  | x :: t, p => by
    simp only [sCf.go]
    by_cases h : r x p
    · rw [if_pos h]; exact (sCf.go_sub r t x).cons x
    · rw [if_neg h]; exact (sCf.go_sub r t x).cons_cons x
theorem sCf.list_sub {γ : Type} (r : γ → γ → Bool) : ∀ (l : List γ), (sCf.list r l).Sublist l
  | [] => List.Sublist.slnil
  | x :: t => (sCf.go_sub r t x).cons_cons x
theorem sCf.list_map {γ β : Type} (f : γ → β) (r : β → β → Bool) : ∀ (l : List γ), (sCf.list (fun a b => r (f a) (f b)) l).map f = sCf.list r (l.map f)
  | [] => rfl
  | x :: t => by
    have h : ∀ (t : List γ) (p : γ), (sCf.go (fun a b => r (f a) (f b)) p t).map f = sCf.go r (f p) (t.map f) := by
      intro t
      induction t with
      | nil => intro p; rfl
      | cons y t ih =>
        intro p
        simp only [sCf.go, List.map_cons]
        by_cases hr : r (f y) (f p)
        · rw [if_pos hr, if_pos hr]; exact ih y
        · rw [if_neg hr, if_neg hr, List.map_cons, ih y]
    simp only [sCf.list, List.map_cons, h]
theorem sCf.setMany_one (enc : α → List Value) (k : Nat) (hk : ∀ x, (enc x).length = k) (d : Array α) (i : Nat) (x : α) (hi : i < d.size) :
    setMany (flatK enc k d) (i * k) (enc x) = flatK enc k (d.setIfInBounds i x) := by
  refine ext_get! (by simp) fun t ht => ?_
  have ht' : t < d.size * k := by simpa using ht
  have k0 : 0 < k := by rcases Nat.eq_zero_or_pos k with h | h; · subst h; simp at ht'
                        · exact h
  rw [get_setMany _ _ _ t (by simpa using ht'), get_flatK _ _ _ t ht', get_flatK _ _ _ t (by simpa using ht'), hk]
  by_cases a : t / k = i
  · rw [if_pos ((blk_iff k i t k0).2 a), a, sCf.set_same d i x hi]
    congr 1
    subst a
    rw [Nat.mod_eq_sub_div_mul]
  · rw [if_neg (fun h => a ((blk_iff k i t k0).1 h)), sCf.set_other d i _ x a]
end
section
open Go.Sort Go.Lib Go.Shelf
variable {α : Type} [Inhabited α] {enc : α → List Value} {k : Nat} {w0 W : World} {blk off : Nat} {dk d0 : Array α}
theorem sCf.putRowK_set (hk : ∀ x, (enc x).length = k) (w : World) (blk off : Nat) (d : Array α) (i : Nat) (x : α) (hi : i < d.size) :
    (putRowK enc k w blk off d).setCells blk (off + i * k) (enc x) = putRowK enc k w blk off (d.setIfInBounds i x) := by
  unfold putRowK
  rw [setCells_putRow _ _ _ _ _ _ (by rw [hk, size_flatK]; exact Go.Proofs.rowK_bnd d k i hi), sCf.setMany_one enc k hk d i x hi]
theorem sCf.SWK_set (h : Go.Proofs.SWK enc k w0 blk off dk W) (hk : ∀ x, (enc x).length = k) (hblk : blk < w0.heap.size) (i : Nat) (x : α) (hi : i < dk.size) :
    Go.Proofs.SWK enc k w0 blk off (dk.setIfInBounds i x) (W.setCells blk (off + i * k) (enc x)) := by
  obtain ⟨n, os, rfl⟩ := h
  refine ⟨n, os, ?_⟩
  unfold Go.Proofs.sortWorldK
  rw [setCells_grow os blk _ _ _ (by rw [size_putRowK]; exact hblk), sCf.putRowK_set hk _ blk off dk i x hi]
theorem sCf.SWK_put (h : Go.Proofs.SWK enc k w0 blk off dk W) (R : Go.Proofs.RowK enc k w0 blk off d0) (hs : dk.size = d0.size) (P : Program) (i : Nat) (hi : i < dk.size) (y : α) :
    Sem.run P (storeCells ⟨blk, off + i * k, none⟩ (enc y) 0) W = .ok () (W.setCells blk (off + i * k) (enc y)) :=
  Go.Proofs.stores_of_holds P (h.holds R.hblk R.hH hs) (i * k) _ (by rw [R.hk, size_flatK]; exact Go.Proofs.rowK_bnd dk k i hi) (R.h1 _)
theorem sCf.SWK_clear (h : Go.Proofs.SWK enc k w0 blk off dk W) (R : Go.Proofs.RowK enc k w0 blk off d0) (hs : dk.size = d0.size) (P : Program) (t e ty : TypeId) (z : Value) (ht : P.underlying t = some (.slice e)) (hv : ∀ w, (zeroValue e).run P w = .ok z w) (hz : z.cells.size = k) (h1 : ∀ v ∈ z.cells.toList, v.oneCell' = true) (kk c : Nat) (hkk : kk < dk.size) :
    (Builtin.clear_ #[t] ty #[.slice (some ⟨blk, off + kk * k, none⟩) (dk.size - kk) c]).run P W = .ok (.tuple #[]) (W.setCells blk (off + kk * k) (Builtin.zeroCells z.cells (dk.size - kk)).toList) := by
  have hl : (Builtin.zeroCells z.cells (dk.size - kk)).toList.length = (dk.size - kk) * k := by simp [Builtin.zeroCells, hz]
  have hst := Go.Proofs.stores_of_holds P (h.holds R.hblk R.hH hs) (kk * k) (Builtin.zeroCells z.cells (dk.size - kk)).toList (by
    rw [hl, size_flatK, Nat.sub_mul]
    have := Nat.mul_le_mul_right k (Nat.le_of_lt hkk)
    omega) (fun v hv' => by
    simp only [Builtin.zeroCells, Array.toList_map, List.mem_map, Array.toList_range, List.mem_range] at hv'
    obtain ⟨i, hi, rfl⟩ := hv'
    have hk0 : 0 < k := by rcases Nat.eq_zero_or_pos k with h0 | h0; · subst h0; simp [hz] at hi
                           · exact h0
    rw [getElem!_pos z.cells _ (by rw [hz]; exact Nat.mod_lt _ hk0)]
    exact h1 _ (by simp))
  obtain ⟨m, hm⟩ : ∃ m, dk.size - kk = m + 1 := ⟨dk.size - kk - 1, by omega⟩
  rw [hm] at hst ⊢
  simp [Builtin.clear_, run_underlying ht, hv, hst]
def sCf.EqLays (P : Program) (g : Nat) (cb : Array Value) (enc : α → List Value) (k : Nat) (r : α → α → Bool) (blk off size : Nat) (w : World) : Prop :=
  ∀ (m : Nat) (os : Array Obj) (dk : Array α), dk.size = size → ∀ x y : α,
    Calls P g (#[.agg (enc x).toArray, .agg (enc y).toArray] ++ cb) (Go.Proofs.sortWorldK enc k w blk off m dk os) fun e w' => e = .returned (.bool (r x y)) ∧ ∃ q os', w' = grow ((Go.Proofs.sortWorldK enc k w blk off m dk os).drewN q) os'
theorem sCf.SWK_eq {P : Program} {g : Nat} {cb : Array Value} {r : α → α → Bool} {size : Nat} (h : Go.Proofs.SWK enc k w0 blk off dk W) (hC : sCf.EqLays P g cb enc k r blk off size w0) (hs : dk.size = size) (x y : α) (n : Nat) (os : Array Obj) :
    Calls P g (#[.agg (enc x).toArray, .agg (enc y).toArray] ++ cb) (grow (W.drewN n) os) fun e w' => e = .returned (.bool (r x y)) ∧ ∃ q os', w' = grow ((grow (W.drewN n) os).drewN q) os' := by
  obtain ⟨m, os0, hw⟩ := h.grown n os
  rw [hw]
  exact hC m os0 dk hs x y
theorem sCf.three {l : List Value} (h : l.length = 3) : ∃ a b c, l = [a, b, c] := by
  match l, h with
  | [a, b, c], _ => exact ⟨a, b, c, rfl⟩
theorem sCf.cells3 (h : Go.Proofs.SWK enc 3 w0 blk off dk W) (R : Go.Proofs.RowK enc 3 w0 blk off d0) (hs : dk.size = d0.size) (i : Nat) (hi : i < dk.size) (c0 c1 c2 : Value) (he : enc dk[i]! = [c0, c1, c2]) :
    (∀ (n : Nat) (os : Array Obj), (grow (W.drewN n) os).cell? ⟨blk, off + i * 3, none⟩ = some c0) ∧ (∀ (n : Nat) (os : Array Obj), (grow (W.drewN n) os).cell? ⟨blk, off + i * 3 + 1, none⟩ = some c1) ∧ (∀ (n : Nat) (os : Array Obj), (grow (W.drewN n) os).cell? ⟨blk, off + i * 3 + 2, none⟩ = some c2) := by
  have H := fun (n : Nat) (os : Array Obj) => (h.grown n os).holds R.hblk R.hH hs
  have a0 := fun n os => ((H n os).cell hi (c := 0) (by omega)).1
  have a1 := fun n os => ((H n os).cell hi (c := 1) (by omega)).1
  have a2 := fun n os => ((H n os).cell hi (c := 2) (by omega)).1
  rw [he] at a0 a1 a2
  exact ⟨fun n os => a0 n os, fun n os => a1 n os, fun n os => a2 n os⟩
end
set_option maxHeartbeats 16000000 in
set_option maxRecDepth 1000000 in
theorem sCf.walk {α : Type} [Inhabited α] (enc : α → List Value) (r : α → α → Bool) (g : Nat) (cb : Array Value) (blk off cap : Nat) (d : Array α) (w : World)
    (eg : ∀ args w, (callFunc g args).run Try.prog w = .ok (.enter g args) w) (hcmp : sCf.EqLays Try.prog g cb enc 3 r blk off d.size w) (R : Go.Proofs.RowK enc 3 w blk off d) (hsz : d.size < 4611686018427387904) (hcap : d.size ≤ cap) :
    Calls Try.prog 79 #[.slice (some ⟨blk, off, none⟩) d.size cap, .func (.func g) #[] cb] w fun e w' => e = .returned (.slice (some ⟨blk, off, none⟩) (sCf.upTo r d d.size).length cap) ∧
      ∃ (dk : Array α) (W : World) (zs : List Value), Go.Proofs.SWK enc 3 w blk off dk W ∧ dk.size = d.size ∧ (∀ j, j < (sCf.upTo r d d.size).length → (sCf.upTo r d d.size)[j]? = some dk[j]!) ∧ (sCf.upTo r d d.size).length * 3 + zs.length ≤ d.size * 3 ∧ w' = W.setCells blk (off + (sCf.upTo r d d.size).length * 3) zs := by
  have mixed : Try.prog.follows .mixedOrders = true := by rfl
  have S0 : Aside (Go.Proofs.SWK enc 3 w blk off d w) := Go.Proofs.SWK.start R.hH
  have HC : Aside _ := hcmp
  clear hcmp
  have same : ∀ W, Go.Proofs.SWK enc 3 w blk off d W → (∀ j, j < d.size → sCf.keeps r d j = true) → (sCf.upTo r d d.size).length = d.size ∧ ∃ (dk : Array α) (W' : World) (zs : List Value), Go.Proofs.SWK enc 3 w blk off dk W' ∧ dk.size = d.size ∧ (∀ j, j < (sCf.upTo r d d.size).length → (sCf.upTo r d d.size)[j]? = some dk[j]!) ∧ (sCf.upTo r d d.size).length * 3 + zs.length ≤ d.size * 3 ∧ W = W'.setCells blk (off + (sCf.upTo r d d.size).length * 3) zs := by
    intro W hW hall
    have e : sCf.upTo r d d.size = d.toList := by rw [sCf.upTo_all r d _ hall, sCf.range_all]
    rw [e]
    refine ⟨by simp, d, W, [], hW, rfl, fun j hj => ?_, by simp, rfl⟩
    have hj' : j < d.size := by simpa using hj
    rw [getElem!_pos d j hj']; simp [hj']
  have HS : Aside _ := same
  clear same
  by_cases h2 : d.size < 2
  · go_enter Try.func79, Try.ntmps79
    go_wp2
    go_ret
    obtain ⟨e1, e2⟩ := HS.out w S0.out (fun j hj => sCf.keeps_lt r d j (by omega))
    exact ⟨by rw [e1]; rfl, e2⟩
  · go_enter Try.func79, Try.ntmps79
    go_wp2
    go_loopg [5] d.size (fun g5 s5 wr => ∃ k : Nat, 1 ≤ k ∧ k ≤ d.size ∧ d.size - k ≤ g5 ∧ s5 = .int .i64 k ∧ Aside (Go.Proofs.SWK enc 3 w blk off d wr) ∧ Aside (∀ j, j < k → sCf.keeps r d j = true))
    case atStart => exact ⟨1, Nat.le_refl _, by omega, by omega, rfl, S0, sCf.keeps_lt r d⟩
    case round =>
      clear S0
      obtain ⟨k, hk1, hk, hg, rfl, S1, HA⟩ := hrel
      by_cases hlt : k < d.size
      · obtain ⟨x, hx⟩ : ∃ x, x = d[k]! := ⟨_, rfl⟩
        obtain ⟨y, hy⟩ : ∃ y, y = d[k - 1]! := ⟨_, rfl⟩
        obtain ⟨x0, x1, x2, ex⟩ := sCf.three (R.hk x)
        obtain ⟨y0, y1, y2, ey⟩ := sCf.three (R.hk y)
        obtain ⟨la0, la1, la2⟩ := sCf.cells3 S1.out R rfl k hlt x0 x1 x2 (by rw [← hx]; exact ex)
        obtain ⟨lb0, lb1, lb2⟩ := sCf.cells3 S1.out R rfl (k - 1) (by omega) y0 y1 y2 (by rw [← hy]; exact ey)
        have hc := sCf.SWK_eq S1.out HC.out rfl x y
        rw [ex, ey] at hc
        have B : Aside (x = d[k]! ∧ y = d[k - 1]!) := ⟨hx, hy⟩
        clear hx hy ex ey
        obtain ⟨km, hkm⟩ : ∃ q, q + 1 = k := ⟨k - 1, by omega⟩
        obtain ⟨iN, hiN⟩ : ∃ q, q = k := ⟨_, rfl⟩
        obtain ⟨jN, hjN⟩ : ∃ q, q = k - 1 := ⟨_, rfl⟩
        rw [← hiN] at la0 la1 la2
        rw [← hjN] at lb0 lb1 lb2
        have zk : (k : Int) = (km : Int) + 1 := by omega
        have ea : ((km : Int) + 1).toNat = iN := by omega
        have pa : (0 : Int) ≤ (km : Int) + 1 := by omega
        have ba : (km : Int) + 1 < (d.size : Int) := by omega
        have ra : IntKind.i64.wrap ((km : Int) + 1) = (km : Int) + 1 := by rw [IntKind.wrap_i64]; omega
        have ec : ((km : Int)).toNat = jN := by omega
        have pc : (0 : Int) ≤ (km : Int) := by omega
        have bc : (km : Int) < (d.size : Int) := by omega
        have rc : IntKind.i64.wrap ((km : Int)) = (km : Int) := by rw [IntKind.wrap_i64]; omega
        have HN : Aside (iN = k ∧ jN = k - 1) := ⟨hiN, hjN⟩
        clear hiN hjN
        go_wp2_with fail
        go_quiet_grown (first | (go_at_fn g; refine Calls.grown_of (hc _ _)))
        have S2 : Aside (Go.Proofs.SWK enc 3 w blk off d (Go.Sort.grow (wr.drewN nq) osq)) := S1.out.grown nq osq
        clear la0 la1 la2 lb0 lb1 lb2 hc S1
        generalize Go.Sort.grow (wr.drewN nq) osq = w2 at S2 ⊢
        clear nq osq
        cases hr : r x y with
        | false =>
          go_wp2_with fail
          go_roundg (d.size - (k + 1))
          case measure => omega
          case rel =>
            refine ⟨k + 1, by omega, by omega, Nat.le_refl _, by go_num, S2, fun j hj => ?_⟩
            by_cases e : j = k
            · subst e
              have h1 := B.out
              simp only [sCf.keeps]
              rw [← h1.1, ← h1.2, hr]
              simp
            · exact HA.out j (by omega)
        | true =>
          have e1 : iN ≤ cap := by have := HN.out; omega
          have e2 : ¬ (d.size < iN) := by have := HN.out; omega
          go_wp2_with fail
          have hki := HN.out.1
          subst hki
          have hstart : Aside (sCf.CInv r d (iN + 1) iN d) := sCf.CInv.start (fun j hj => HA.out j (by omega)) (by
            have h1 := B.out
            simp only [sCf.keeps]
            rw [← h1.1, ← h1.2, hr]
            simp; omega) (by omega)
          clear HA B HS hr ec pc bc rc
          go_loopg [5, 7] d.size (fun g7 s5 s7 wr => ∃ (kk k2 : Nat) (dk : Array α), s5 = .int .i64 kk ∧ s7 = .int .i64 k2 ∧ 1 ≤ k2 ∧ iN + k2 ≤ d.size ∧ d.size - (iN + k2) ≤ g7 ∧ Aside (Go.Proofs.SWK enc 3 w blk off dk wr) ∧ Aside (sCf.CInv r d (iN + k2) kk dk))
          case atStart => exact ⟨iN, 1, d, by rw [zk], rfl, Nat.le_refl _, by omega, by omega, S2, hstart⟩
          case round =>
            clear S2 hstart
            obtain ⟨kk, k2, dk, rfl, rfl, h1, hle, hg2, S3, I3⟩ := hrel
            have hkk := I3.out.lt
            have hds := I3.out.size
            by_cases hlt2 : iN + k2 < d.size
            · have tl : (k2 : Int) < ((d.size - iN : Nat) : Int) := by omega
              obtain ⟨u, hu⟩ : ∃ x, x = d[iN + k2]! := ⟨_, rfl⟩
              obtain ⟨v, hv⟩ : ∃ y, y = d[iN + k2 - 1]! := ⟨_, rfl⟩
              obtain ⟨u0, u1, u2, eu⟩ := sCf.three (R.hk u)
              obtain ⟨v0, v1, v2, ev⟩ := sCf.three (R.hk v)
              obtain ⟨la0, la1, la2⟩ := sCf.cells3 S3.out R hds (iN + k2) (by omega) u0 u1 u2 (by rw [I3.out.high _ (by omega), ← hu]; exact eu)
              obtain ⟨lb0, lb1, lb2⟩ := sCf.cells3 S3.out R hds (iN + k2 - 1) (by omega) v0 v1 v2 (by rw [I3.out.high _ (by omega), ← hv]; exact ev)
              have hc := sCf.SWK_eq S3.out HC.out hds u v
              rw [eu, ev] at hc
              obtain ⟨km2, hkm2⟩ : ∃ q, q + 1 = k2 := ⟨k2 - 1, by omega⟩
              obtain ⟨mN, hmN⟩ : ∃ q, q = k2 := ⟨_, rfl⟩
              obtain ⟨pN, hpN⟩ : ∃ q, q = k2 - 1 := ⟨_, rfl⟩
              rw [show off + (iN + k2) * 3 = off + iN * 3 + mN * 3 by rw [hmN]; omega] at la0 la1 la2
              rw [show off + (iN + k2 - 1) * 3 = off + iN * 3 + pN * 3 by rw [hpN]; omega] at lb0 lb1 lb2
              have zk2 : (k2 : Int) = (km2 : Int) + 1 := by omega
              have ea2 : ((km2 : Int) + 1).toNat = mN := by omega
              have pa2 : (0 : Int) ≤ (km2 : Int) + 1 := by omega
              have ba2 : (km2 : Int) + 1 < ((d.size - iN : Nat) : Int) := by omega
              have ra2 : IntKind.i64.wrap ((km2 : Int) + 1) = (km2 : Int) + 1 := by rw [IntKind.wrap_i64]; omega
              have ec2 : ((km2 : Int)).toNat = pN := by omega
              have pc2 : (0 : Int) ≤ (km2 : Int) := by omega
              have bc2 : (km2 : Int) < ((d.size - iN : Nat) : Int) := by omega
              have rc2 : IntKind.i64.wrap ((km2 : Int)) = (km2 : Int) := by rw [IntKind.wrap_i64]; omega
              have B2 : Aside (u = d[iN + k2]! ∧ v = d[iN + k2 - 1]! ∧ enc u = [u0, u1, u2]) := ⟨hu, hv, eu⟩
              have HN2 : Aside (mN = k2 ∧ pN = k2 - 1) := ⟨hmN, hpN⟩
              clear hu hv eu ev hmN hpN
              go_wp2_with fail
              go_quiet_grown (first | (go_at_fn g; refine Calls.grown_of (hc _ _)))
              have S4 : Aside (Go.Proofs.SWK enc 3 w blk off dk (Go.Sort.grow (wr.drewN nq) osq)) := S3.out.grown nq osq
              clear la0 la1 la2 lb0 lb1 lb2 hc S3
              generalize Go.Sort.grow (wr.drewN nq) osq = w3 at S4 ⊢
              clear nq osq
              cases hr2 : r u v with
              | true =>
                go_wp2_with fail
                go_roundg (d.size - (iN + (k2 + 1)))
                case measure => omega
                case rel => exact ⟨kk, k2 + 1, dk, rfl, by go_num, by omega, by omega, Nat.le_refl _, S4, I3.out.skip (by
                  have h1 := B2.out
                  simp only [sCf.keeps]
                  rw [← h1.1, ← h1.2.1, hr2]
                  simp; omega)⟩
              | false =>
                have HH := S4.out.holds R.hblk R.hH hds
                obtain ⟨o0, o1, o2, eo⟩ := sCf.three (R.hk dk[kk]!)
                have c0 := HH.cell (i := kk) (c := 0) (by omega) (by omega)
                have c1 := HH.cell (i := kk) (c := 1) (by omega) (by omega)
                have c2 := HH.cell (i := kk) (c := 2) (by omega) (by omega)
                have m0 := (HH.cell (i := iN + k2) (c := 0) (by omega) (by omega)).1
                have m1 := (HH.cell (i := iN + k2) (c := 1) (by omega) (by omega)).1
                have m2 := (HH.cell (i := iN + k2) (c := 2) (by omega) (by omega)).1
                rw [eo] at c0 c1 c2
                rw [I3.out.high _ (by omega), ← B2.out.1, B2.out.2.2, show off + (iN + k2) * 3 = off + iN * 3 + mN * 3 by rw [HN2.out.1]; omega] at m0 m1 m2
                obtain ⟨kc0, kf0⟩ : w3.cell? ⟨blk, off + kk * 3, none⟩ = some o0 ∧ w3.frozen? ⟨blk, off + kk * 3, none⟩ = false := c0
                obtain ⟨kc1, kf1⟩ : w3.cell? ⟨blk, off + kk * 3 + 1, none⟩ = some o1 ∧ w3.frozen? ⟨blk, off + kk * 3 + 1, none⟩ = false := c1
                obtain ⟨kc2, kf2⟩ : w3.cell? ⟨blk, off + kk * 3 + 2, none⟩ = some o2 ∧ w3.frozen? ⟨blk, off + kk * 3 + 2, none⟩ = false := c2
                have lm0 : w3.cell? ⟨blk, off + iN * 3 + mN * 3, none⟩ = some u0 := m0
                have lm1 : w3.cell? ⟨blk, off + iN * 3 + mN * 3 + 1, none⟩ = some u1 := m1
                have lm2 : w3.cell? ⟨blk, off + iN * 3 + mN * 3 + 2, none⟩ = some u2 := m2
                have q0 : ∀ (a : Addr) (m : Mode) (W : World), Sem.run Try.prog (store a u0 m) W = stored Try.prog W a u0 m := fun a m W => run_store _ W a _ m (R.h1 u u0 (by rw [B2.out.2.2]; simp))
                have q1 : ∀ (a : Addr) (m : Mode) (W : World), Sem.run Try.prog (store a u1 m) W = stored Try.prog W a u1 m := fun a m W => run_store _ W a _ m (R.h1 u u1 (by rw [B2.out.2.2]; simp))
                have q2 : ∀ (a : Addr) (m : Mode) (W : World), Sem.run Try.prog (store a u2 m) W = stored Try.prog W a u2 m := fun a m W => run_store _ W a _ m (R.h1 u u2 (by rw [B2.out.2.2]; simp))
                have S5 : Aside (Go.Proofs.SWK enc 3 w blk off (dk.setIfInBounds kk u) (((w3.setCell ⟨blk, off + kk * 3, none⟩ u0).setCell ⟨blk, off + kk * 3 + 1, none⟩ u1).setCell ⟨blk, off + kk * 3 + 2, none⟩ u2)) := by
                  have h5 := sCf.SWK_set S4.out R.hk R.hblk kk u (by omega)
                  rw [B2.out.2.2] at h5
                  exact h5
                have bk : (kk : Int) < (d.size : Int) := by omega
                have tk : ((kk : Nat) : Int).toNat = kk := by omega
                clear m0 m1 m2 HH
                go_wp2_with fail
                go_roundg (d.size - (iN + (k2 + 1)))
                case measure => omega
                case rel => exact ⟨kk + 1, k2 + 1, dk.setIfInBounds kk u, by go_num, by go_num, by omega, by omega, Nat.le_refl _, S5, by
                  have h1 := B2.out
                  have h2 := I3.out.keep (by omega) (by simp only [sCf.keeps]; rw [← h1.1, ← h1.2.1, hr2]; simp)
                  rw [← h1.1] at h2
                  exact h2⟩
            · have hend : iN + k2 = d.size := by omega
              have hclr := fun ty => sCf.SWK_clear S3.out R hds Try.prog 49 27 ty (.agg #[(.slice none 0 0), (.slice none 0 0), (.int .i64 0)]) Try.underlying49 Try.zeroValue27 rfl (by decide) kk (cap - kk) (by omega)
              rw [hds] at hclr
              have tl : ¬ ((k2 : Int) < ((d.size - iN : Nat) : Int)) := by omega
              have bk : ¬ (d.size < kk) := by omega
              have bc : ¬ (cap < kk) := by omega
              have I4 : Aside (sCf.CInv r d d.size kk dk) := by have h := I3.out; rw [hend] at h; exact h
              have hds2 : Aside (dk.size = d.size) := hds
              clear I3 hds
              go_wp2_with fail
              go_ret
              have hl := I4.out.len
              rw [hl]
              refine ⟨rfl, dk, wr, S3.out, hds2.out, I4.out.low, _, ?_, rfl⟩
              have e3 : (Builtin.zeroCells #[Value.slice none 0 0, Value.slice none 0 0, Value.int IntKind.i64 0] (d.size - kk)).toList.length = (d.size - kk) * 3 := by simp [Builtin.zeroCells]
              rw [e3]
              omega
      · have : k = d.size := by omega
        subst this
        go_wp2
        go_ret
        obtain ⟨e1, e2⟩ := HS.out wr S1.out HA.out
        exact ⟨by rw [e1]; rfl, e2⟩
section
open Go.Sort
theorem sCf.eq_at (l0 l1 : List Int) (h0 : l0.length ≤ 9223372036854775807) (hl : l0.length = l1.length) :
    ∀ (d i : Nat), i + d = l0.length → slices_Equal_int_int.l0 (d + 1) l0 l1 (l0.length : Int) (i : Int) = some (decide (l0.drop i = l1.drop i))
  | 0, i, hd => by
    obtain rfl : i = l0.length := by omega
    simp only [slices_Equal_int_int.l0]
    rw [if_neg (by omega), List.drop_length, hl, List.drop_length]
    simp
  | d + 1, i, hd => by
    have hi0 : i < l0.length := by omega
    rw [slices_Equal_int_int.l0]
    rw [if_pos (by omega), if_pos (by omega), if_pos (by omega), if_pos (by omega), slices_Compare_int_int.rd_ l0 i hi0, slices_Compare_int_int.rd_ l1 i (by omega)]
    by_cases h : rd l0 (i : Int) = rd l1 (i : Int)
    · rw [if_pos h, slices_Compare_int_int.w64_ (by omega) (by omega)]
      rw [show ((i : Int) + 1) = ((i + 1 : Nat) : Int) by omega, sCf.eq_at l0 l1 h0 hl d (i + 1) (by omega)]
      simp [h]
    · rw [if_neg h]
      simp [h]
theorem sCf.eq_ (l0 l1 : List Int) (h0 : l0.length ≤ 9223372036854775807) : slices_Equal_int_int.f (l0.length + 1) l0 l1 = some (decide (l0 = l1)) := by
  unfold slices_Equal_int_int.f
  by_cases h : l0.length = l1.length
  · rw [if_pos (by omega)]
    exact sCf.eq_at l0 l1 h0 h l0.length 0 (by omega)
  · rw [if_neg (by omega)]
    have : l0 ≠ l1 := fun e => h (by rw [e])
    simp [this]
def sCf.same (x y : S27) : Bool := decide (x.f0 = y.f0) && (decide (x.f1 = y.f1) && (x.f2 == y.f2))
theorem sCf.same_ (x y : S27) (h0 : x.f0.length ≤ 9223372036854775807) (h1 : x.f1.length ≤ 9223372036854775807) : impl_State_same.f (x.f0.length + x.f1.length + 1) x.f0 x.f1 x.f2 y.f0 y.f1 y.f2 = some (sCf.same x y) := by
  have e1 := sSf.upF (slices_Equal_int_int.mono x.f0 y.f0) (sCf.eq_ x.f0 y.f0 h0) (x.f0.length + x.f1.length + 1) (by omega)
  have e2 := sSf.upF (slices_Equal_int_int.mono x.f1 y.f1) (sCf.eq_ x.f1 y.f1 h1) (x.f0.length + x.f1.length + 1) (by omega)
  unfold impl_State_same.f sCf.same
  rw [e1, Option.bind_some, e2, Option.bind_some]
  by_cases a : x.f0 = y.f0
  · by_cases b : x.f1 = y.f1
    · simp [a, b]
    · simp [a, b]
  · simp [a]
theorem sCf.compG {β : Type} {d : Kd β} (hd : d.sz = 3) (π : β → S27) (hK : ∀ (W : World) (x : β) (cs : List Value), d.K W x cs → k27.K W (π x) cs) {w : World} {base : Nat} {ok : Nat → Prop} {v : Value} {xs : List β} (hN : Kd.N d 27 w base ok v xs) (hp : 0 < xs.length) (hl : xs.length < 4611686018427387904) :
    Calls Try.prog 79 #[v, .func (.func 44) #[] #[]] w fun e w' => ∃ v', e = .returned v' ∧ ∃ ys : List β, ys.Sublist xs ∧ ys.map π = sCf.list sCf.same (xs.map π) ∧ Kd.N d 27 w' base ok v' ys ∧ w.grownBy w' v.ownBlock ∧ v'.ownBlock = v.ownBlock := by
  obtain ⟨g, cap, cur, L, rfl, hbg, hok, hg, hncap, hcap, hcs, hL2, hch⟩ := row3.open hd hN hp
  have hgl : g < w.heap.size := (Array.getElem?_eq_some_iff.1 hg).1
  have hLl : L.length = xs.length := by rw [← hL2, List.length_map]
  haveI : Inhabited {p : List Value × β // row3.G d w ok g p} := ⟨L.get ⟨0, by omega⟩⟩
  let en : {p : List Value × β // row3.G d w ok g p} → List Value := fun a => a.1.1
  let r : {p : List Value × β // row3.G d w ok g p} → {p : List Value × β // row3.G d w ok g p} → Bool := fun a b => sCf.same (π a.1.2) (π b.1.2)
  have heg : ∀ args w, (callFunc 44 args).run Try.prog w = .ok (.enter 44 args) w := fun args w => enters_of Try.func44 (by kernel_rfl) rfl args w
  have hcmp : sCf.EqLays Try.prog 44 #[] en 3 r g 0 L.toArray.size w := by
    intro m os dk hdk x y
    have hx := x.2 (Go.Proofs.sortWorldK en 3 w g 0 m dk os) (fun k hk hlt => row3.heap_other en dk hlt (fun e => hk.2 (by rw [e])))
    have hy := y.2 (Go.Proofs.sortWorldK en 3 w g 0 m dk os) (fun k hk hlt => row3.heap_other en dk hlt (fun e => hk.2 (by rw [e])))
    obtain ⟨A0, c0, A1, c1, e0, l0, r0, l1, r1⟩ := k27_open (hK _ _ _ hx)
    obtain ⟨B0, d0, B1, d1, f0, m0, s0, m1, s1⟩ := k27_open (hK _ _ _ hy)
    have hx1 : en x = [.slice A0 (π x.1.2).f0.length c0, .slice A1 (π x.1.2).f1.length c1, .int .i64 (π x.1.2).f2] := e0
    have hy1 : en y = [.slice B0 (π y.1.2).f0.length d0, .slice B1 (π y.1.2).f1.length d1, .int .i64 (π y.1.2).f2] := f0
    rw [hx1, hy1]
    refine (impl_State_same.calls _ A0 c0 (π x.1.2).f0 A1 c1 (π x.1.2).f1 (π x.1.2).f2 B0 d0 (π y.1.2).f0 B1 d1 (π y.1.2).f1 (π y.1.2).f2 _ _ r0 l0 r1 l1 s0 m0 s1 m1 (sCf.same_ (π x.1.2) (π y.1.2) r0.2.1 r1.2.1)).mono ?_
    rintro e w' ⟨he, hb, hd⟩
    exact ⟨he, sSf.grow_of hb hd⟩
  have hHolds : HoldsK en 3 w g 0 L.toArray := row3.holds hd L hg hch
  have hsize : L.toArray.size = xs.length := by simp; omega
  have hcon := sCf.walk en r 44 #[] g 0 cap L.toArray w heg hcmp ⟨fun a => row3.G_len hd a.2, fun a => row3.G_one a.2, hHolds, hgl⟩ (by rw [hsize]; exact hl) (by rw [hsize]; exact hncap)
  have hup : ((sCf.upTo r L.toArray L.toArray.size).map (fun a => a.1.2)).map π = sCf.list sCf.same (xs.map π) := by
    rw [show L.toArray.size = L.length from by simp, sCf.upTo_list r L L.length (Nat.le_refl _), List.take_length, ← hL2, List.map_map, List.map_map]
    exact sCf.list_map (fun a : {p : List Value × β // row3.G d w ok g p} => π a.1.2) sCf.same L
  have hsub : ((sCf.upTo r L.toArray L.toArray.size).map (fun a => a.1.2)).Sublist xs := by
    rw [show L.toArray.size = L.length from by simp, sCf.upTo_list r L L.length (Nat.le_refl _), List.take_length, ← hL2]
    exact (sCf.list_sub r L).map _
  have hlen := sCf.upTo_len r L.toArray L.toArray.size
  rw [hsize] at hcon hlen hup hsub
  refine (show Calls Try.prog 79 _ _ _ from hcon).mono ?_
  generalize sCf.upTo r L.toArray xs.length = L' at hup hsub hlen hcon
  rintro e w' ⟨he, dk, W, zs, ⟨m, os, rfl⟩, hds, hlow, hzs, rfl⟩
  have hdx : dk.size = xs.length := hds
  have hcs2 : (putCells id 0 (flatK en 3 dk) cur).size = cap * 3 := by simpa [putCells] using hcs
  obtain ⟨cur', h1, h2, h3⟩ := setCells_row zs (0 + L'.length * 3) (Go.Proofs.sortWorldK en 3 w g 0 m dk os) _ (row3.heap_put en dk hg) (by rw [hcs2]; omega)
  have hcl := row3.close hd (w' := (Go.Proofs.sortWorldK en 3 w g 0 m dk os).setCells g (0 + L'.length * 3) zs) L' hbg hok h1 (by omega) hcap (by rw [h2]; exact hcs2) (fun j a ha => by
    have hj : j < L'.length := (List.getElem?_eq_some_iff.1 ha).1
    have hput := row3.chunk_put en (fun a => row3.G_len hd a.2) cur dk (by omega) j (by omega)
    have e : dk[j]! = a := by have := hlow j hj; rw [ha] at this; exact (Option.some.inj this).symm
    rw [e] at hput
    refine row3.chunk_of (row3.G_len hd a.2) (fun i hi => ?_)
    rw [h3, List.append_assoc, List.getElem?_append_left (by simp; omega), List.getElem?_take_of_lt (by omega)]
    exact row3.chunk_get hput hi) (fun k hk hne => by rw [setCells_far _ _ k hne]; exact row3.heap_other en dk hk hne)
  refine ⟨_, he, _, hsub, hup, hcl, ?_, rfl⟩
  have hgb := row3.grownBy_put en (w := w) (g := g) (n := m) (os := os) dk
  have hsm := setCells_same g zs (0 + L'.length * 3) (Go.Proofs.sortWorldK en 3 w g 0 m dk os)
  refine ⟨hsm.1.trans hgb.os, hsm.2.1.trans hgb.tape, hsm.2.2.1.trans hgb.output, by rw [hsm.2.2.2]; exact hgb.size, fun k hk hne => ?_⟩
  have hne2 : k ≠ g := fun e => hne (by rw [e]; rfl)
  rw [setCells_far _ _ k hne2]
  exact hgb.block k hk hne
theorem sCf.compN {w : World} {base : Nat} {ok : Nat → Prop} {v : Value} {xs : List S27} (hN : Kd.N k27 27 w base ok v xs) (hp : 0 < xs.length) (hl : xs.length < 4611686018427387904) :
    Calls Try.prog 79 #[v, .func (.func 44) #[] #[]] w fun e w' => ∃ v', e = .returned v' ∧ Kd.N k27 27 w' base ok v' (sCf.list sCf.same xs) ∧ w.grownBy w' v.ownBlock ∧ v'.ownBlock = v.ownBlock :=
  (sCf.compG (d := k27) rfl (fun x => x) (fun _ _ _ h => h) hN hp hl).mono fun _ _ ⟨v', he, ys, _, h2, h3, h4⟩ => ⟨v', he, by rw [List.map_id', List.map_id'] at h2; rw [← h2]; exact h3, h4⟩
end
def sCf.f (xs : List S27) : Option (List S27) := if (decide (0 < xs.length) && decide (xs.length < 4611686018427387904)) = true then some (sCf.list sCf.same xs) else none
theorem sCf.calls {w : World} {base : Nat} {ok : Nat → Prop} {v : Value} {xs r : List S27} (hN : Kd.N k27 27 w base ok v xs) (h : sCf.f xs = some r) :
    Calls Try.prog 79 #[v, .func (.func 44) #[] #[]] w fun e w' => ∃ v', e = .returned v' ∧ Kd.N k27 27 w' base ok v' r ∧ w.grownBy w' v.ownBlock ∧ v'.ownBlock = v.ownBlock := by
  unfold sCf.f at h
  by_cases c : (decide (0 < xs.length) && decide (xs.length < 4611686018427387904)) = true
  · rw [if_pos c] at h
    obtain rfl := Option.some.inj h
    simp only [Bool.and_eq_true, decide_eq_true_eq] at c
    exact sCf.compN hN c.1 c.2
  · rw [if_neg c] at h
    cases h
end Go.Proofs.Ytlbaldejaapbiaa.QFnExactStatesAfter
