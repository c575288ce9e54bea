-- Written by wip/myprint.py (a program of mine round the kit's printer). Lean checks it.
import Derived.Test.YtpepnlcelllhkaaQFnExactRankMeanderx0
import Derived.Test.YtpepnlcelllhkaaQFnExactRankMeanderx8
namespace Go.Proofs.Ytpepnlcelllhkaa.QFnExactRankMeander
open Go.RowKit Go.Proofs.YtpepnlcelllhkaaW.PrintWords Go.Proofs.YtpepnlcelllhkaaW.PrintLast Go.Proofs.YtpepnlcelllhkaaW.PrintMore
attribute [local go_sem] max2_int min2_int max_two min_two max_three min_three max_four min_four   -- for this text's walks alone
set_option linter.unusedVariables false
set_option linter.unusedSimpArgs false

/-! ### impl_Meander_components: function 69 -/
def impl_Meander_components.f (k : Nat) (l0_0 : List Int) (l0_1 : List Int) : Option (Int) := (impl_Meander_curves.f k l0_0 l0_1).bind fun bt371 => (some bt371.2)
theorem impl_Meander_components.mono : ∀ a0 a1 k, LeO (impl_Meander_components.f k a0 a1) (impl_Meander_components.f (k + 1) a0 a1) := by
  intro a0 a1 k
  unfold impl_Meander_components.f
  repeat' first
      | (with_reducible exact impl_Meander_curves.mono _ _ _)
      | (with_reducible exact LeO.refl _)
      | (with_reducible exact LeO.none _)
      | (with_reducible refine LeO.ite ?_ ?_)
      | (with_reducible refine LeO.bind ?_ (fun _ => ?_))
      | exact impl_Meander_curves.mono _ _ _
      | exact LeO.none _
      | refine LeO.ite ?_ ?_
      | refine LeO.bind ?_ (fun _ => ?_)
set_option maxHeartbeats 8000000 in
set_option maxRecDepth 100000 in
theorem impl_Meander_components.calls (k : Nat) (A0_0 : Option Addr) (c0_0 : Nat) (l0_0 : List Int) (A0_1 : Option Addr) (c0_1 : Nat) (l0_1 : List Int) (r : Int) (w : World) (hr0_0 : Kd.C (Kd.int .i64) w A0_0 l0_0.length l0_0) (hc0_0 : l0_0.length ≤ c0_0) (hr0_1 : Kd.C (Kd.int .i64) w A0_1 l0_1.length l0_1) (hc0_1 : l0_1.length ≤ c0_1) (h : impl_Meander_components.f k l0_0 l0_1 = some r) :
    Calls Try.prog 69 #[.agg #[.slice A0_0 l0_0.length c0_0, .slice A0_1 l0_1.length c0_1]] w fun e w' => e = .returned (.int .i64 r) ∧ Below w.heap.size w w' := by
  have hu44 := Try.underlying44
  have HR0_0 := Aside0.mk hr0_0
  have HC0_0 := Aside0.mk hc0_0
  clear hr0_0 hc0_0
  have HR0_1 := Aside0.mk hr0_1
  have HC0_1 := Aside0.mk hc0_1
  clear hr0_1 hc0_1
  have HB := Aside0.mk (Below.refl w.heap.size w)
  have H : ((impl_Meander_curves.f k l0_0 l0_1).bind fun bt371 => (some bt371.2)) = some r := h
  clear h
  replace H := Option.bind_eq_some_iff.mp H
  obtain ⟨⟨t371, t374⟩, A20, H⟩ := H
  replace H : (some t374) = some r := H
  have A2 := Aside0.mk A20
  clear A20
  obtain rfl := Option.some.inj H
  go_enter Try.func69, Try.ntmps69
  go_wp2_with (first | ((with_reducible refine gate_dst (N := 1) rfl ?_); refine box_event ?hg (N := 1) ?hd (cs := #[.slice A0_0 l0_0.length c0_0, .slice A0_1 l0_1.length c0_1]) (t := 44) ?hr ?_; (case hd => rfl); (case hg => rfl); (case hr => first | (go_simp; done) | (go_simp; rfl)); intro gb370 hg w3 hbox hb; have n0_ := Aside0.mk (below_step (by repeat (first | (with_reducible first | exact HB.out | apply below_alloc | apply pw_below_drewN | apply below_drew1) | exact HB.out)) hb); have n1_ := Aside0.mk (hbox); have n2_ := Aside0.mk ((by rw [hg]; exact (below_size (by repeat (first | (with_reducible first | exact HB.out | apply below_alloc | apply pw_below_drewN | apply below_drew1) | exact HB.out))) : w.heap.size ≤ gb370)); have n3_ := Aside0.mk ((by rw [hg]; exact (below_size (by repeat (first | (with_reducible first | exact HB.out | apply below_alloc | apply pw_below_drewN | apply below_drew1) | exact HB.out))) : w.heap.size ≤ gb370)); clear HB; have HB := n0_; have BK370 := n1_; have GW370 := n2_; have GE370 := n3_; clear n0_ n1_ n2_ n3_; clear hb hbox hg; have hcz4_0 : w3.cell? ⟨gb370, 0, none⟩ = some (.slice A0_0 l0_0.length c0_0) := (blk_cell BK370.out 0).trans rfl; have hcz4_1 : w3.cell? ⟨gb370, 1, none⟩ = some (.slice A0_1 l0_1.length c0_1) := (blk_cell BK370.out 1).trans rfl; have hfz4_0 := blk_frozen BK370.out 0; have hfz4_1 := blk_frozen BK370.out 1) | ((with_reducible refine gate_callee (f := 93) rfl ?_); refine goesL_ (some 7) rfl rfl Try.func93 (by kernel_rfl) rfl #[.agg #[.slice A0_0 l0_0.length c0_0, .slice A0_1 l0_1.length c0_1]] rfl (by (try simp only [List.map_toArray, List.map_cons, List.map_nil]); first | done | rfl | (simp only [List.length_drop, List.length_take]; rfl)) ?_; (with_reducible refine (impl_Meander_curves.calls k _ _ l0_0 _ _ l0_1 t371 t374 _ ?side1 ?side2 ?side3 ?side4 A2.out).mono ?_); (case side1 => repeat (first | exact (Kd.C_below HR0_0.out HB.out) | (with_reducible refine Kd.C_alloc ?_ _) | (with_reducible refine Kd.C_drewN ?_ _) | (with_reducible refine Kd.C_drew ?_))); (case side2 => exact HC0_0.out); (case side3 => repeat (first | exact (Kd.C_below HR0_1.out HB.out) | (with_reducible refine Kd.C_alloc ?_ _) | (with_reducible refine Kd.C_drewN ?_ _) | (with_reducible refine Kd.C_drew ?_))); (case side4 => exact HC0_1.out); rintro e w5 ⟨v372, rfl, ho0, hb⟩; refine ⟨_, rfl, ?_⟩; have n0_ := Aside0.mk (Kd.R_lower ho0 (below_size (by repeat (first | (with_reducible first | exact HB.out | apply below_alloc | apply pw_below_drewN | apply below_drew1 | refine below_set ?_ GE370.out) | exact HB.out)))); have n1_ := Aside0.mk (blk_below (g := gb370) (o := .cells #[.slice A0_0 l0_0.length c0_0, .slice A0_1 l0_1.length c0_1] 44 (0, 0)) (by (with_reducible repeat (first | refine blk_drewN ?_ _ | refine blk_drew ?_ | refine blk_alloc ?_ _)); exact BK370.out) hb); have n2_ := Aside0.mk (below_step (by repeat (first | (with_reducible first | exact HB.out | apply below_alloc | apply pw_below_drewN | apply below_drew1 | refine below_set ?_ GE370.out) | exact HB.out)) hb); clear BK370; clear HB; have HO373 := n0_; have BK370 := n1_; have HB := n2_; clear n0_ n1_ n2_; (try clear hb); (try clear hb2); (try clear hk); (try clear hi); (try clear ho0)))
  go_ret
  exact ⟨by first | rfl | (simp [errW_none, errW_some] <;> rfl) | (simp [*, errW_none, errW_some] <;> rfl), by repeat (first | (with_reducible first | exact HB.out | apply below_alloc | apply pw_below_drewN | apply below_drew1 | refine below_set ?_ GE370.out) | exact HB.out)⟩

/-! ### impl_Meander_isOne: function 75 -/
def impl_Meander_isOne.f (k : Nat) (l0_0 : List Int) (l0_1 : List Int) : Option (Bool) := (impl_Meander_components.f k l0_0 l0_1).bind fun t376 => (some (t376 == 1))
theorem impl_Meander_isOne.mono : ∀ a0 a1 k, LeO (impl_Meander_isOne.f k a0 a1) (impl_Meander_isOne.f (k + 1) a0 a1) := by
  intro a0 a1 k
  unfold impl_Meander_isOne.f
  repeat' first
      | (with_reducible exact impl_Meander_components.mono _ _ _)
      | (with_reducible exact LeO.refl _)
      | (with_reducible exact LeO.none _)
      | (with_reducible refine LeO.ite ?_ ?_)
      | (with_reducible refine LeO.bind ?_ (fun _ => ?_))
      | exact impl_Meander_components.mono _ _ _
      | exact LeO.none _
      | refine LeO.ite ?_ ?_
      | refine LeO.bind ?_ (fun _ => ?_)
set_option maxHeartbeats 8000000 in
set_option maxRecDepth 100000 in
theorem impl_Meander_isOne.calls (k : Nat) (A0_0 : Option Addr) (c0_0 : Nat) (l0_0 : List Int) (A0_1 : Option Addr) (c0_1 : Nat) (l0_1 : List Int) (r : Bool) (w : World) (hr0_0 : Kd.C (Kd.int .i64) w A0_0 l0_0.length l0_0) (hc0_0 : l0_0.length ≤ c0_0) (hr0_1 : Kd.C (Kd.int .i64) w A0_1 l0_1.length l0_1) (hc0_1 : l0_1.length ≤ c0_1) (h : impl_Meander_isOne.f k l0_0 l0_1 = some r) :
    Calls Try.prog 75 #[.agg #[.slice A0_0 l0_0.length c0_0, .slice A0_1 l0_1.length c0_1]] w fun e w' => e = .returned (.bool r) ∧ Below w.heap.size w w' := by
  have hu44 := Try.underlying44
  have HR0_0 := Aside0.mk hr0_0
  have HC0_0 := Aside0.mk hc0_0
  clear hr0_0 hc0_0
  have HR0_1 := Aside0.mk hr0_1
  have HC0_1 := Aside0.mk hc0_1
  clear hr0_1 hc0_1
  have HB := Aside0.mk (Below.refl w.heap.size w)
  have H : ((impl_Meander_components.f k l0_0 l0_1).bind fun t376 => (some (t376 == 1))) = some r := h
  clear h
  replace H := Option.bind_eq_some_iff.mp H
  obtain ⟨t376, A20, H⟩ := H
  replace H : (some (t376 == 1)) = some r := H
  have A2 := Aside0.mk A20
  clear A20
  obtain rfl := Option.some.inj H
  go_enter Try.func75, Try.ntmps75
  go_wp2_with (first | ((with_reducible refine gate_dst (N := 1) rfl ?_); refine box_event ?hg (N := 1) ?hd (cs := #[.slice A0_0 l0_0.length c0_0, .slice A0_1 l0_1.length c0_1]) (t := 44) ?hr ?_; (case hd => rfl); (case hg => rfl); (case hr => first | (go_simp; done) | (go_simp; rfl)); intro gb375 hg w3 hbox hb; have n0_ := Aside0.mk (below_step (by repeat (first | (with_reducible first | exact HB.out | apply below_alloc | apply pw_below_drewN | apply below_drew1) | exact HB.out)) hb); have n1_ := Aside0.mk (hbox); have n2_ := Aside0.mk ((by rw [hg]; exact (below_size (by repeat (first | (with_reducible first | exact HB.out | apply below_alloc | apply pw_below_drewN | apply below_drew1) | exact HB.out))) : w.heap.size ≤ gb375)); have n3_ := Aside0.mk ((by rw [hg]; exact (below_size (by repeat (first | (with_reducible first | exact HB.out | apply below_alloc | apply pw_below_drewN | apply below_drew1) | exact HB.out))) : w.heap.size ≤ gb375)); clear HB; have HB := n0_; have BK375 := n1_; have GW375 := n2_; have GE375 := n3_; clear n0_ n1_ n2_ n3_; clear hb hbox hg; have hcz4_0 : w3.cell? ⟨gb375, 0, none⟩ = some (.slice A0_0 l0_0.length c0_0) := (blk_cell BK375.out 0).trans rfl; have hcz4_1 : w3.cell? ⟨gb375, 1, none⟩ = some (.slice A0_1 l0_1.length c0_1) := (blk_cell BK375.out 1).trans rfl; have hfz4_0 := blk_frozen BK375.out 0; have hfz4_1 := blk_frozen BK375.out 1) | ((with_reducible refine gate_callee (f := 69) rfl ?_); refine goesL_ (some 4) rfl rfl Try.func69 (by kernel_rfl) rfl #[.agg #[.slice A0_0 l0_0.length c0_0, .slice A0_1 l0_1.length c0_1]] rfl (by (try simp only [List.map_toArray, List.map_cons, List.map_nil]); first | done | rfl | (simp only [List.length_drop, List.length_take]; rfl)) ?_; (with_reducible refine (impl_Meander_components.calls k _ _ l0_0 _ _ l0_1 t376 _ ?side1 ?side2 ?side3 ?side4 A2.out).mono ?_); (case side1 => repeat (first | exact (Kd.C_below HR0_0.out HB.out) | (with_reducible refine Kd.C_alloc ?_ _) | (with_reducible refine Kd.C_drewN ?_ _) | (with_reducible refine Kd.C_drew ?_))); (case side2 => exact HC0_0.out); (case side3 => repeat (first | exact (Kd.C_below HR0_1.out HB.out) | (with_reducible refine Kd.C_alloc ?_ _) | (with_reducible refine Kd.C_drewN ?_ _) | (with_reducible refine Kd.C_drew ?_))); (case side4 => exact HC0_1.out); rintro e w5 ⟨rfl, hb⟩; refine ⟨_, rfl, ?_⟩; have n0_ := Aside0.mk (blk_below (g := gb375) (o := .cells #[.slice A0_0 l0_0.length c0_0, .slice A0_1 l0_1.length c0_1] 44 (0, 0)) (by (with_reducible repeat (first | refine blk_drewN ?_ _ | refine blk_drew ?_ | refine blk_alloc ?_ _)); exact BK375.out) hb); have n1_ := Aside0.mk (below_step (by repeat (first | (with_reducible first | exact HB.out | apply below_alloc | apply pw_below_drewN | apply below_drew1 | refine below_set ?_ GE375.out) | exact HB.out)) hb); clear BK375; clear HB; have BK375 := n0_; have HB := n1_; clear n0_ n1_; (try clear hb); (try clear hb2); (try clear hk); (try clear hi)))
  go_ret
  exact ⟨by first | rfl | (simp [errW_none, errW_some] <;> rfl) | (simp [*, errW_none, errW_some] <;> rfl), by repeat (first | (with_reducible first | exact HB.out | apply below_alloc | apply pw_below_drewN | apply below_drew1 | refine below_set ?_ GE375.out) | exact HB.out)⟩

-- NOT PRINTED: function 96 (impl_meanders_1)

/-! ### impl_meanders: function 71 (by hand) -/
/-! #### slices.IndexFunc and slices.DeleteFunc at pairs of rows, for a function value that may make memory -/
section
local instance impl_meanders.inh : Inhabited S44 := ⟨z44⟩
theorem impl_meanders.idx_spec {α : Type} (eq : α → α → Bool) (x : α) [Inhabited α] : ∀ (l : List α) (i : Nat), (Lib.idxByFrom eq x l i = -1 ∧ ∀ j, j < l.length → eq x l[j]! = false) ∨ ∃ k, k < l.length ∧ Lib.idxByFrom eq x l i = ((i + k : Nat) : Int) ∧ eq x l[k]! = true ∧ ∀ j, j < k → eq x l[j]! = false
  | [], _ => .inl ⟨rfl, fun j hj => absurd hj (Nat.not_lt_zero _)⟩
  | y :: r, i => by
    cases h : eq x y with
    | true => exact .inr ⟨0, by simp, by simp [Lib.idxByFrom, h], by simpa using h, fun j hj => absurd hj (Nat.not_lt_zero _)⟩
    | false =>
      rcases impl_meanders.idx_spec eq x r (i + 1) with ⟨e, ha⟩ | ⟨k, hk, e, ht, ha⟩
      · refine .inl ⟨by simp [Lib.idxByFrom, h, e], fun j hj => ?_⟩
        cases j with
        | zero => simpa using h
        | succ j => simpa using ha j (by simpa using hj)
      · refine .inr ⟨k + 1, by simpa using hk, by simp only [Lib.idxByFrom, h]; rw [show (if false = true then (i : Int) else Lib.idxByFrom eq x r (i + 1)) = Lib.idxByFrom eq x r (i + 1) from rfl, e]; congr 1; omega, by simpa using ht, fun j hj => ?_⟩
        cases j with
        | zero => simpa using h
        | succ j => simpa using ha j (by omega)
theorem impl_meanders.add0 (g m : Nat) : (⟨g, 0, none⟩ : Addr).add m = ⟨g, m, none⟩ := by
  unfold Addr.add
  by_cases h : m = 0 <;> simp [h]
theorem impl_meanders.at {w : World} {base : Nat} {ok : Nat → Prop} {g n c : Nat} {xs : List S44} (hN : Kd.N k44 44 w base ok (.slice (some ⟨g, 0, none⟩) n c) xs) (j : Nat) (hj : j < n) : ∃ (A0 : Option Addr) (m0 c0 : Nat) (A1 : Option Addr) (m1 c1 : Nat), w.cell? ⟨g, j * 2, none⟩ = some (.slice A0 m0 c0) ∧ w.cell? ⟨g, j * 2 + 1, none⟩ = some (.slice A1 m1 c1) ∧ Kd.FK k44 w (fun k => ok k ∧ k ≠ g) (rd_T44 xs (j : Int)) [.slice A0 m0 c0, .slice A1 m1 c1] := by
  obtain ⟨ad, A0, c0, A1, c1, e, h0, h1, l0, r0, l1, r1⟩ := at_T44 (Kd.N_reads' hN).2.2 (j : Int) (by omega) (by have := (Kd.N_reads' hN).1; omega)
  cases e
  obtain ⟨ce, hce, hM, hcc⟩ := Kd.N_get hN z44 (j : Int) (by omega) (by omega)
  obtain ⟨ua0, uc0, ua1, uc1, rfl, _⟩ := k44_openF hM
  have e0 := hcc 0 _ rfl
  have e1 := hcc 1 _ rfl
  rw [impl_meanders.add0, Int.toNat_natCast, show (k44).sz = 2 from rfl] at e0 e1
  exact ⟨_, _, _, _, _, _, e0, e1, Kd.FK_mono hM (fun k hk => ⟨hk.1, fun e => hk.2 (by rw [e]; rfl)⟩)⟩
set_option maxHeartbeats 4000000 in
set_option maxRecDepth 1000000 in
theorem impl_meanders.index (p : S44 → Bool) (gf : Nat) (lb : Array Value) (eg : ∀ args w, (callFunc gf args).run Try.prog w = .ok (.enter gf args) w) {base : Nat} {ok : Nat → Prop} {g n c : Nat} {xs : List S44} (w : World) (hN : Kd.N k44 44 w base ok (.slice (some ⟨g, 0, none⟩) n c) xs) (hbig : n ≤ 9223372036854775807)
    (hp : ∀ (W : World) (x : S44) (u0 u1 : Value), x ∈ xs → Below w.heap.size w W → (k44).K W x [u0, u1] → Calls Try.prog gf (#[.agg #[u0, u1]] ++ lb) W fun e w' => e = .returned (.bool (p x)) ∧ Below W.heap.size W w') :
    Calls Try.prog 80 #[.slice (some ⟨g, 0, none⟩) n c, .func (.func gf) #[] lb] w fun e w' => e = .returned (.int .i64 (Lib.idxBy (fun _ y => p y) xs z44)) ∧ Below w.heap.size w w' := by
  have hu := Try.underlying44
  have hn : n = xs.length := (Kd.N_reads' hN).1
  have HN := Aside0.mk hN
  have HP := Aside0.mk hp
  have HL := Aside0.mk hn
  clear hp hN hn
  go_enter Try.func80, Try.ntmps80
  go_wp2
  go_loopg [5, 8] n (fun gg _ s8 wr => ∃ kk : Nat, kk ≤ n ∧ n - kk ≤ gg ∧ s8 = .int .i64 kk ∧ Aside0 (Below w.heap.size w wr) ∧ Aside0 (∀ j, j < kk → p xs[j]! = false))
  case atStart => exact ⟨0, Nat.zero_le _, by omega, rfl, ⟨Below.refl _ _⟩, ⟨fun j hj => absurd hj (Nat.not_lt_zero _)⟩⟩
  case round =>
    obtain ⟨kk, hkk, hg, rfl, HB, A⟩ := hrel
    by_cases hlt : kk < n
    · have hltz : (kk : Int) < (n : Int) := by omega
      obtain ⟨A0, m0, d0, A1, m1, d1, hc0, hc1, hF⟩ := impl_meanders.at (Kd.N_below HN.out HB.out) kk hlt
      have hrd : rd_T44 xs (kk : Int) = xs[kk]! := by
        unfold rd_T44
        rw [Int.toNat_natCast, List.getD_eq_getElem?_getD, List.getElem!_eq_getElem?_getD]
        rfl
      rw [hrd] at hF
      generalize hy : xs[kk]! = y at hF
      have B : Aside0 (xs[kk]! = y) := ⟨hy⟩
      clear hy hrd
      have hcall := HP.out wr y _ _ (by rw [← B.out, getElem!_pos xs kk (by have := HL.out; omega)]; exact List.getElem_mem _) HB.out (Foot.now hF)
      clear hF
      cases hq : p y with
      | true =>
        rw [hq] at hcall
        have HC := Aside0.mk hcall
        clear hcall
        go_wp2_with ((refine HC.out.mono ?_); rintro e w' ⟨rfl, hb'⟩; have HB' := Aside0.mk (below_step HB.out hb'); clear hb')
        go_ret
        refine ⟨?_, HB'.out⟩
        have h_ := Lib.idxBy_hit (fun _ y => p y) xs n kk z44 hlt (by have := HL.out; omega) (by show p xs[kk]! = true; rw [B.out]; exact hq) A.out
        rw [List.take_of_length_le (by have := HL.out; omega)] at h_
        rw [h_]
        rfl
      | false =>
        rw [hq] at hcall
        have HC := Aside0.mk hcall
        clear hcall
        go_wp2_with ((refine HC.out.mono ?_); rintro e w' ⟨rfl, hb'⟩; have HB' := Aside0.mk (below_step HB.out hb'); clear hb')
        go_roundg (n - (kk + 1))
        case measure => omega
        case rel =>
          refine ⟨kk + 1, by omega, by omega, by go_num, HB', ⟨fun j hj => ?_⟩⟩
          by_cases e : j = kk
          · subst e
            rw [B.out]; exact hq
          · exact A.out j (by omega)
    · have hltz : ¬ (kk : Int) < (n : Int) := by omega
      have : kk = n := by omega
      subst this
      go_wp2
      go_ret
      refine ⟨?_, HB.out⟩
      have h_ := Lib.idxBy_miss (fun _ y => p y) xs kk z44 A.out
      rw [List.take_of_length_le (by have := HL.out; omega)] at h_
      rw [h_]
      rfl
theorem impl_meanders.below_setCells {B : Nat} {a : World} (b : Nat) (hb : B ≤ b) : ∀ (vs : List Value) (o : Nat) {w : World}, Below B a w → Below B a (w.setCells b o vs)
  | [], _, _, h => h
  | v :: r, o, _, h => impl_meanders.below_setCells b hb r (o + 1) (h.setCell (p := ⟨b, o, none⟩) hb v)
theorem impl_meanders.setCells_at {e : TypeId} {fr : Nat × Nat} (g : Nat) : ∀ (zs : List Value) (o : Nat) (w : World) (cur : Array Value), w.heap[g]? = some (.cells cur e fr) → ∃ cur', (w.setCells g o zs).heap[g]? = some (.cells cur' e fr) ∧ cur'.size = cur.size ∧ ∀ j, j < o → cur'[j]? = cur[j]?
  | [], o, w, cur, h => ⟨cur, h, rfl, fun _ _ => rfl⟩
  | z :: zs, o, w, cur, h => by
    obtain ⟨cur', h1, h2, h3⟩ := impl_meanders.setCells_at (e := e) (fr := fr) g zs (o + 1) (w.setCell ⟨g, o, none⟩ z) (cur.setIfInBounds o z) (by simp [World.setCell, Array.getElem?_modify, h])
    refine ⟨cur', h1, by simpa using h2, fun j hj => ?_⟩
    rw [h3 j (by omega), Array.getElem?_setIfInBounds_ne (by omega)]
theorem impl_meanders.clear {d : Kd S44} {e : TypeId} {w : World} {base : Nat} {ok : Nat → Prop} {g n c m : Nat} {xs : List S44} (h : Kd.N d e w base ok (.slice (some ⟨g, 0, none⟩) n c) xs) (hm : m ≤ n) (zs : List Value) :
    Kd.N d e (w.setCells g (m * d.sz) zs) base ok (.slice (some ⟨g, 0, none⟩) m c) (xs.take m) := by
  have hn : n = xs.length := (Kd.N_reads' h).1
  obtain ⟨h0, rows, hl, ⟨hk, inner, ho, hr⟩, hf⟩ := Kd.N_take h (m := m) (by omega)
  have hlen : (xs.take m).length = m := by rw [List.length_take]; omega
  have hsz : (Kd.raw d.sz).sz = d.sz := rfl
  rw [hsz] at ho hr
  rcases ho.2 with ⟨he, _⟩ | ⟨g', cap, cur, he, hbg, hg, hncap, hcap, hcs, htake⟩
  · simp at he
  · injection he with he1 he2 he3
    have hgg : g = g' := by injection he1 with h_; injection h_
    subst hgg
    subst he3
    obtain ⟨cur', h1, h2, h3⟩ := impl_meanders.setCells_at g zs (m * d.sz) w cur hg
    have hgl : g < w.heap.size := (Array.getElem?_eq_some_iff.1 hg).1
    refine ⟨h0, rows, hl, ⟨hk, inner, ⟨ho.1, .inr ⟨g, c, cur', by rw [he2], hbg, h1, hncap, hcap, (h2.trans hcs : cur'.size = c * d.sz), ?_⟩⟩, hr⟩, fun j x cc hx hc => Kd.FK_step (hf j x cc hx hc) (fun k hk hlt => ?_)⟩
    · show List.take (rows.length * d.sz) cur'.toList = inner
      rw [← htake]
      apply List.ext_getElem?
      intro j
      have hrl : rows.length * d.sz = m * d.sz := by rw [hl, hlen]
      by_cases hj : j < rows.length * d.sz
      · rw [List.getElem?_take_of_lt hj, List.getElem?_take_of_lt hj, Array.getElem?_toList, Array.getElem?_toList, h3 j (by omega)]
      · rw [List.getElem?_take_eq_none (by omega), List.getElem?_take_eq_none (by omega)]
    · exact World.heap_setCells_other w g _ zs hlt (fun e => hk.2 (by rw [e]; rfl))
theorem impl_meanders.zero (w : World) : (zeroValue 44).run Try.prog w = .ok (.agg #[.slice none 0 0, .slice none 0 0]) w := by
  have h : (Try.prog.info? 44).map (fun i => i.zero) = some (some (.agg #[.slice none 0 0, .slice none 0 0])) := by kernel_rfl
  obtain ⟨i, hi, hz⟩ := Option.map_eq_some_iff.1 h
  simp [zeroValue, typeInfo, hi, hz]
theorem impl_meanders.run_clear (ty : TypeId) (c' : Nat) {w : World} {base : Nat} {ok : Nat → Prop} {g n c i : Nat} {xs : List S44} (h : Kd.N k44 44 w base ok (.slice (some ⟨g, 0, none⟩) n c) xs) (hi : i < n) :
    (Builtin.clear_ #[49] ty #[.slice (some ⟨g, i * 2, none⟩) (n - i) c']).run Try.prog w = .ok (.tuple #[]) (w.setCells g (i * 2) (List.replicate ((n - i) * 2) (.slice none 0 0))) := by
  have hzc : (Builtin.zeroCells (Value.agg #[.slice none 0 0, .slice none 0 0]).cells (n - i)).toList = List.replicate ((n - i) * 2) (.slice none 0 0) := by
    rw [show (Value.agg #[.slice none 0 0, .slice none 0 0]).cells = #[.slice none 0 0, .slice none 0 0] from rfl]
    apply List.ext_getElem
    · simp [Builtin.zeroCells]
    · intro j h1 h2
      simp only [Builtin.zeroCells, Array.toList_map, List.getElem_map, List.getElem_replicate]
      have hq : ∀ q, q < 2 → (#[.slice none 0 0, .slice none 0 0] : Array Value)[q]! = .slice none 0 0 := fun q hq => by
        rcases q with _ | _ | q
        · rfl
        · rfl
        · omega
      exact hq _ (Nat.mod_lt _ (by decide))
  have hcell : ∀ j, j < (n - i) * 2 → (w.cell? ⟨g, i * 2 + j, none⟩).isSome = true ∧ w.frozen? ⟨g, i * 2 + j, none⟩ = false := fun j hj => by
    obtain ⟨A0, m0, c0, A1, m1, c1, e0, e1, _⟩ := impl_meanders.at h (i + j / 2) (by omega)
    obtain ⟨g', cap, he, _, _, cells, hb⟩ := Kd.N_form h (by have := (Kd.N_reads' h).1; omega)
    injection he with he1
    injection he1 with he1
    injection he1 with he1
    subst he1
    refine ⟨?_, by simp [World.frozen?, hb]⟩
    rcases Nat.mod_two_eq_zero_or_one j with e | e
    · rw [show i * 2 + j = (i + j / 2) * 2 by omega, e0]; rfl
    · rw [show i * 2 + j = (i + j / 2) * 2 + 1 by omega, e1]; rfl
  have hst := run_storeCells_cells (P := Try.prog) g (i * 2) (List.replicate ((n - i) * 2) (.slice none 0 0)) 0 w (fun j hj => by rw [Nat.add_zero]; exact (hcell j (by simpa using hj)).1) (fun j hj => by rw [Nat.add_zero]; exact (hcell j (by simpa using hj)).2) (by intro v hv'; rw [List.eq_of_mem_replicate hv']; rfl)
  simp only [Nat.add_zero] at hst
  obtain ⟨m, hm⟩ : ∃ m, n - i = m + 1 := ⟨n - i - 1, by omega⟩
  rw [hm] at hzc hst ⊢
  simp [Builtin.clear_, run_underlying Try.underlying49, impl_meanders.zero, hzc, hst]
set_option maxHeartbeats 8000000 in
set_option maxRecDepth 1000000 in
theorem impl_meanders.delete (p : S44 → Bool) (gf : Nat) (lb : Array Value) (eg : ∀ args w, (callFunc gf args).run Try.prog w = .ok (.enter gf args) w) {base : Nat} {ok : Nat → Prop} {g n c : Nat} {xs : List S44} (w : World) (hN : Kd.N k44 44 w base ok (.slice (some ⟨g, 0, none⟩) n c) xs) (hbw : base ≤ w.heap.size) (hbig : n ≤ 4611686018427387903)
    (hp : ∀ (W : World) (x : S44) (u0 u1 : Value), x ∈ xs → Below base w W → (k44).K W x [u0, u1] → Calls Try.prog gf (#[.agg #[u0, u1]] ++ lb) W fun e w' => e = .returned (.bool (p x)) ∧ Below W.heap.size W w') :
    Calls Try.prog 95 #[.slice (some ⟨g, 0, none⟩) n c, .func (.func gf) #[] lb] w fun e w' => ∃ v, e = .returned v ∧ Kd.N k44 44 w' base ok v (xs.filter fun x => !p x) ∧ Below base w w' := by
  have hn : n = xs.length := (Kd.N_reads' hN).1
  have hnc : n ≤ c := (Kd.N_reads' hN).2.1
  have hbg : base ≤ g := Kd.N_base hN g rfl
  have hgl : g < w.heap.size := Kd.N_lt hN g rfl
  have hIF := impl_meanders.index p gf lb eg w hN (by omega) (fun W x u0 u1 hx hb hK => hp W x u0 u1 hx (hb.mono hbw) hK)
  obtain ⟨kp, HK⟩ : ∃ kp : Nat → Bool, Aside0 (kp = fun j => !p xs.toArray[j]!) := ⟨_, ⟨rfl⟩⟩
  have hsz : xs.toArray.size = n := by simp [hn]
  have tl : ∀ j, j < n → xs[j]! = xs.toArray[j]! := fun j hj => by rw [getElem!_pos xs j (by omega), getElem!_pos xs.toArray j (by omega)]; simp
  have hfil : (xs.filter fun x => !p x) = Lib.keptUpTo kp xs.toArray xs.toArray.size := by rw [HK.out]; exact (Lib.keptUpTo_filter (fun x => !p x) xs.toArray).symm
  generalize (xs.filter fun x => !p x) = R at hfil ⊢
  have HRR := Aside0.mk hfil
  have HN := Aside0.mk hN
  have HP := Aside0.mk hp
  have HL := Aside0.mk hn
  have HBW := Aside0.mk hbw
  have HBG := Aside0.mk hbg
  have HSZ := Aside0.mk hsz
  have hu := Try.underlying44
  have hu2 := Try.underlying49
  rcases impl_meanders.idx_spec (fun _ y => p y) z44 xs 0 with ⟨e1, hall⟩ | ⟨k0, hk0, e1, ht, hall⟩
  · have e2 : Lib.idxBy (fun _ y => p y) xs z44 = -1 := e1
    rw [e2] at hIF
    have hkeep : ∀ j, j < n → kp j = true := fun j hj => by rw [HK.out]; show (!p xs.toArray[j]!) = true; rw [← tl j hj, hall j (by omega)]; rfl
    have e3 : Lib.keptUpTo kp xs.toArray xs.toArray.size = xs := by rw [Lib.keptUpTo_all kp xs.toArray _ (by rw [hsz]; exact hkeep), Lib.range_map_get]
    have HI := Aside0.mk hIF
    have E3 := Aside0.mk e3
    clear e3
    clear hN hp hIF hall tl e1 e2 hkeep hfil hn hbw hbg hsz
    go_enter Try.func95, Try.ntmps95
    go_wp2_with (go_at_call 80; refine HI.out.mono ?_; rintro e w' ⟨rfl, hb'⟩; have HB' := Aside0.mk hb'; clear hb')
    go_ret
    rw [HRR.out, E3.out]
    exact ⟨_, rfl, Kd.N_below HN.out HB'.out, HB'.out.mono HBW.out⟩
  · have hk0' : k0 < n := by omega
    have e2 : Lib.idxBy (fun _ y => p y) xs z44 = (k0 : Int) := by unfold Lib.idxBy; rw [e1]; simp
    rw [e2] at hIF
    have hkeep : ∀ j, j < k0 → kp j = true := fun j hj => by rw [HK.out]; show (!p xs.toArray[j]!) = true; rw [← tl j (by omega), hall j hj]; rfl
    have hdrop : kp k0 = false := by rw [HK.out]; show (!p xs.toArray[k0]!) = false; rw [← tl k0 hk0', show p xs[k0]! = true from ht]; rfl
    have hne1 : ((k0 : Int) == -1) = false := beq_eq_false_iff_ne.2 (by omega)
    have HI := Aside0.mk hIF
    have HT := Aside0.mk tl
    clear hN hp hIF hall ht e1 e2 tl hfil hn hbw hbg hsz
    go_enter Try.func95, Try.ntmps95
    go_wp2_with (go_at_call 80; refine HI.out.mono ?_; rintro e w' ⟨rfl, hb'⟩; have HB' := Aside0.mk hb'; clear hb')
    go_loopg [5, 6, 7] n (fun gg s5 s6 _ wr => ∃ (i j : Nat) (dk : Array S44), s5 = .int .i64 i ∧ s6 = .int .i64 j ∧ j ≤ n ∧ n - j ≤ gg ∧ Aside0 (Kd.N k44 44 wr base ok (.slice (some ⟨g, 0, none⟩) n c) dk.toList) ∧ Aside0 (Below base w wr) ∧ Aside0 (Lib.KeptInv kp xs.toArray j i dk))
    case atStart => exact ⟨k0, k0 + 1, xs.toArray, rfl, by go_num, by omega, by omega, ⟨Kd.N_below HN.out HB'.out⟩, ⟨HB'.out.mono HBW.out⟩, ⟨Lib.KeptInv.start hkeep hdrop⟩⟩
    case round =>
      obtain ⟨i, j, dk, rfl, rfl, hjd, hgg, HNr, HB, I2⟩ := hrel
      by_cases hlt : j < n
      · have hltz : (j : Int) < (n : Int) := by omega
        have hin : i < n := by have := I2.out.lt; omega
        have hinz : (i : Int) < (n : Int) := by omega
        obtain ⟨A0, m0, d0, A1, m1, d1, hc0, hc1, hF⟩ := impl_meanders.at HNr.out j hlt
        have hrd : rd_T44 dk.toList (j : Int) = xs.toArray[j]! := by
          rw [← I2.out.high j (by have := I2.out.lt; omega)]
          have hjk : j < dk.size := by rw [I2.out.size, HSZ.out]; exact hlt
          unfold rd_T44
          rw [Int.toNat_natCast, List.getD_eq_getElem?_getD, getElem!_pos dk j hjk, Array.getElem?_toList, Array.getElem?_eq_getElem hjk]
          rfl
        rw [hrd] at hF
        generalize hy : xs.toArray[j]! = y at hF
        have C : Aside0 (xs.toArray[j]! = y) := ⟨hy⟩
        clear hy hrd
        have hmem : y ∈ xs := by rw [← C.out, getElem!_pos xs.toArray j (by rw [HSZ.out]; exact hlt)]; simp
        have HF := Aside0.mk hF
        have hcall : ∀ W, Below wr.heap.size wr W → Calls Try.prog gf (#[.agg #[.slice A0 m0 d0, .slice A1 m1 d1]] ++ lb) W fun e w' => e = .returned (.bool (p y)) ∧ Below W.heap.size W w' := fun W hb => HP.out W y _ _ hmem (HB.out.trans (hb.mono (Nat.le_trans HBW.out HB.out.size))) (Foot.now (Foot.mono (Foot.step HF.out (fun k _ hlt => hb.block k hlt)) (fun _ h => h)))
        clear hF hmem
        cases hq : p y with
        | false =>
          rw [hq] at hcall
          have HC := Aside0.mk hcall
          clear hcall
          go_wp2_with (first | ((with_reducible refine gate_dst (N := 7) rfl ?_); refine box_event ?hg (N := 7) ?hd (cs := #[.slice none 0 0, .slice none 0 0]) (t := 44) ?hr ?_; (case hd => rfl); (case hg => rfl); (case hr => first | (go_simp; done) | (go_simp; rfl)); intro gb hgb w1 hbox hb; have HB1 := Aside0.mk hb; have GE := Aside0.mk (Nat.le_of_eq hgb.symm); have GL := Aside0.mk (blk_lt hbox); have hz0 : w1.cell? ⟨gb, 0, none⟩ = some (.slice none 0 0) := (blk_cell hbox 0).trans rfl; have hz1 : w1.cell? ⟨gb, 1, none⟩ = some (.slice none 0 0) := (blk_cell hbox 1).trans rfl; have hfz0 := blk_frozen hbox 0; have hfz1 := blk_frozen hbox 1; clear hb hbox hgb) | ((refine (HC.out _ ?hbW).mono ?_); (case hbW => repeat (first | exact HB1.out | refine below_set ?_ GE.out)); rintro e w9 ⟨rfl, hb9⟩; have HBr := Aside0.mk (below_step (by repeat (first | exact HB1.out | refine below_set ?_ GE.out)) hb9); have hz90 : w9.cell? ⟨gb, 0, none⟩ = some (.slice A0 m0 d0) := (hb9.cell (p := ⟨gb, 0, none⟩) (by simpa using GL.out)).trans ((World.cell?_setCell_other _ _ _ _ (by simp)).trans (World.cell?_setCell_same' _ _ _ (by rw [hz0]; rfl))); have hz91 : w9.cell? ⟨gb, 1, none⟩ = some (.slice A1 m1 d1) := (hb9.cell (p := ⟨gb, 1, none⟩) (by simpa using GL.out)).trans (World.cell?_setCell_same' _ _ _ (by rw [World.cell?_setCell_other _ _ _ _ (by simp), hz1]; rfl)); clear hb9; have HN9 := Aside0.mk (Kd.N_below HNr.out HBr.out); have HB9 := Aside0.mk (HB.out.trans (HBr.out.mono (Nat.le_trans HBW.out HB.out.size)))) | ((with_reducible refine gate_store (t := 44) (p := 33) rfl ?_); obtain ⟨ce, hce, hMe, hcc⟩ := Kd.N_get HN9.out z44 (i : Int) (by omega) (by have := I2.out.lt; omega); refine Kd.N_store k44 base ?hn ?hgd 44 (.tmp 33) (.tmp 32) ?ho 44 (o' := i * 2) (i : Int) 0 dk.toList y (.agg #[.slice A0 m0 d0, .slice A1 m1 d1]) [.slice A0 m0 d0, .slice A1 m1 d1] ce ok (fun k_ => ok k_ ∧ k_ ≠ g) ?ha ?hof ?hx ?hu ?ht ?h1 HN9.out (by omega) (by have := I2.out.lt; omega) hce ?hcc (Nat.le_refl 2) ?hM (fun k_ h_ => h_) HB9.out ?_; (case hn => rfl); (case hgd => rfl); (case ho => rfl); (case ha => rfl); (case hof => rfl); (case hx => rfl); (case hu => rfl); (case ht => kernel_rfl); (case h1 => intro q hq_; simp at hq_; rcases hq_ with rfl | rfl <;> rfl); (case hcc => intro j_ u_ h_; have h2_ := hcc j_ u_ h_; rw [impl_meanders.add0] at h2_; exact h2_); (case hM => exact (show Kd.FK k44 w9 (fun k_ => ok k_ ∧ k_ ≠ g) y ([Value.slice A0 m0 d0, .slice A1 m1 d1] ++ ce.drop 2) from by rw [List.drop_eq_nil_of_le (by rw [hce]; decide), List.append_nil]; exact Kd.FK_step HF.out (fun k_ h_ hl_ => HBr.out.block k_ hl_))); intro w10 hN10 hb10 hg10; have HN10 := Aside0.mk hN10; have HB10 := Aside0.mk hb10; clear hN10 hb10 hg10 hce hMe hcc))
          go_roundg (n - (j + 1))
          case measure => omega
          case rel =>
            refine ⟨i + 1, j + 1, dk.setIfInBounds i y, by go_num, by go_num, by omega, Nat.le_refl _, ⟨?_⟩, HB10, ⟨?_⟩⟩
            · have h_ := HN10.out
              rw [Int.toNat_natCast] at h_
              rw [Array.toList_setIfInBounds]
              exact h_
            · have h_ := I2.out.keep (by rw [HSZ.out]; exact hlt) (by rw [HK.out]; show (!p xs.toArray[j]!) = true; rw [C.out, hq]; rfl)
              rwa [C.out] at h_
        | true =>
          rw [hq] at hcall
          have HC := Aside0.mk hcall
          clear hcall
          go_wp2_with (first | ((with_reducible refine gate_dst (N := 7) rfl ?_); refine box_event ?hg (N := 7) ?hd (cs := #[.slice none 0 0, .slice none 0 0]) (t := 44) ?hr ?_; (case hd => rfl); (case hg => rfl); (case hr => first | (go_simp; done) | (go_simp; rfl)); intro gb hgb w1 hbox hb; have HB1 := Aside0.mk hb; have GE := Aside0.mk (Nat.le_of_eq hgb.symm); have GL := Aside0.mk (blk_lt hbox); have hz0 : w1.cell? ⟨gb, 0, none⟩ = some (.slice none 0 0) := (blk_cell hbox 0).trans rfl; have hz1 : w1.cell? ⟨gb, 1, none⟩ = some (.slice none 0 0) := (blk_cell hbox 1).trans rfl; have hfz0 := blk_frozen hbox 0; have hfz1 := blk_frozen hbox 1; clear hb hbox hgb) | ((refine (HC.out _ ?hbW).mono ?_); (case hbW => repeat (first | exact HB1.out | refine below_set ?_ GE.out)); rintro e w9 ⟨rfl, hb9⟩; have HBr := Aside0.mk (below_step (by repeat (first | exact HB1.out | refine below_set ?_ GE.out)) hb9); have hz90 : w9.cell? ⟨gb, 0, none⟩ = some (.slice A0 m0 d0) := (hb9.cell (p := ⟨gb, 0, none⟩) (by simpa using GL.out)).trans ((World.cell?_setCell_other _ _ _ _ (by simp)).trans (World.cell?_setCell_same' _ _ _ (by rw [hz0]; rfl))); have hz91 : w9.cell? ⟨gb, 1, none⟩ = some (.slice A1 m1 d1) := (hb9.cell (p := ⟨gb, 1, none⟩) (by simpa using GL.out)).trans (World.cell?_setCell_same' _ _ _ (by rw [World.cell?_setCell_other _ _ _ _ (by simp), hz1]; rfl)); clear hb9; have HN9 := Aside0.mk (Kd.N_below HNr.out HBr.out); have HB9 := Aside0.mk (HB.out.trans (HBr.out.mono (Nat.le_trans HBW.out HB.out.size)))))
          go_roundg (n - (j + 1))
          case measure => omega
          case rel => exact ⟨i, j + 1, dk, rfl, by go_num, by omega, Nat.le_refl _, HN9, HB9, ⟨I2.out.skip (by rw [HK.out]; show (!p xs.toArray[j]!) = false; rw [C.out, hq]; rfl)⟩⟩
      · obtain rfl : j = n := by omega
        have hltz : ¬ (j : Int) < (j : Int) := by omega
        have hi : i < j := I2.out.lt
        have hcl := fun ty => impl_meanders.run_clear ty (c - i) HNr.out hi
        have HZ := Aside0.mk (fun zs => impl_meanders.clear HNr.out (Nat.le_of_lt hi) zs)
        go_wp2
        go_ret
        have hR : dk.toList.take i = R := by
          rw [HRR.out, HSZ.out]
          apply List.ext_getElem?
          intro q
          by_cases hq : q < i
          · rw [List.getElem?_take_of_lt hq, I2.out.low q hq]
            have hqd : q < dk.size := by rw [I2.out.size, HSZ.out]; omega
            rw [Array.getElem?_toList, Array.getElem?_eq_getElem hqd, getElem!_pos dk q hqd]
          · rw [List.getElem?_take_eq_none (by omega), List.getElem?_eq_none (by rw [I2.out.len]; omega)]
        refine ⟨_, rfl, ?_, ?_⟩
        · have h_ := HZ.out (List.replicate ((j - i) * 2) (.slice none 0 0))
          rw [hR] at h_
          exact h_
        · exact impl_meanders.below_setCells g HBG.out _ _ HB.out
end

/-- What a test keeps, where the test has a value at each. -/
def filtM (φ : S44 → Option Bool) : List S44 → Option (List S44)
  | [] => some []
  | x :: xs => (φ x).bind fun b => (filtM φ xs).bind fun ys => some (if b = true then x :: ys else ys)
theorem filtM_mono {φ ψ : S44 → Option Bool} (h : ∀ x, LeO (φ x) (ψ x)) : ∀ xs, LeO (filtM φ xs) (filtM ψ xs)
  | [] => LeO.refl _
  | x :: xs => LeO.bind (h x) (fun _ => LeO.bind (filtM_mono h xs) (fun _ => LeO.refl _))
theorem filtM_some {φ : S44 → Option Bool} : ∀ {xs ys}, filtM φ xs = some ys → ∃ p : S44 → Bool, (∀ x, x ∈ xs → φ x = some (p x)) ∧ ys = xs.filter p := by
  intro xs ys h
  refine ⟨fun x => (φ x).getD false, ?_⟩
  induction xs generalizing ys with
  | nil => exact ⟨fun x hx => by simp at hx, by simpa [filtM] using h.symm⟩
  | cons x xs ih =>
    obtain ⟨b, hb, h⟩ := Option.bind_eq_some_iff.1 h
    obtain ⟨zs, hz, h⟩ := Option.bind_eq_some_iff.1 h
    obtain ⟨h1, h2⟩ := ih hz
    injection h with h
    refine ⟨fun y hy => ?_, ?_⟩
    · rcases List.mem_cons.1 hy with rfl | hy
      · simp [hb]
      · exact h1 y hy
    · rw [← h, List.filter_cons, hb, h2]; rfl
def impl_meanders.f (k : Nat) (a0 : Int) : Option (List S44) := (impl_pairs.f k a0).bind fun xs => (if 0 < xs.length ∧ xs.length < 4611686018427387904 then filtM (fun q => impl_Meander_isOne.f k q.f0 q.f1) xs else none)
theorem impl_meanders.mono : ∀ a0 k, LeO (impl_meanders.f k a0) (impl_meanders.f (k + 1) a0) := by
  intro a0 k
  unfold impl_meanders.f
  exact LeO.bind (impl_pairs.mono a0 k) (fun xs => LeO.ite (filtM_mono (fun x => impl_Meander_isOne.mono x.f0 x.f1 k) xs) (LeO.refl _))
theorem impl_meanders.clo (k : Nat) (A0_0 : Option Addr) (c0_0 : Nat) (l0_0 : List Int) (A0_1 : Option Addr) (c0_1 : Nat) (l0_1 : List Int) (r : Bool) (w : World) (hr0_0 : Kd.C (Kd.int .i64) w A0_0 l0_0.length l0_0) (hc0_0 : l0_0.length ≤ c0_0) (hr0_1 : Kd.C (Kd.int .i64) w A0_1 l0_1.length l0_1) (hc0_1 : l0_1.length ≤ c0_1) (h : impl_Meander_isOne.f k l0_0 l0_1 = some r) :
    Calls Try.prog 96 (#[.agg #[.slice A0_0 l0_0.length c0_0, .slice A0_1 l0_1.length c0_1]] ++ #[]) w fun e w' => e = .returned (.bool (!r)) ∧ Below w.heap.size w w' := by
  have hu := Try.underlying44
  have HC := Aside0.mk (fun (W : World) (hb : Below w.heap.size w W) => impl_Meander_isOne.calls k A0_0 c0_0 l0_0 A0_1 c0_1 l0_1 r W (Kd.C_below hr0_0 hb) hc0_0 (Kd.C_below hr0_1 hb) hc0_1 h)
  clear hr0_0 hc0_0 hr0_1 hc0_1 h
  go_enter Try.func96, Try.ntmps96
  go_wp2_with (first | ((with_reducible refine gate_dst (N := 1) rfl ?_); refine box_event ?hg (N := 1) ?hd (cs := #[.slice A0_0 l0_0.length c0_0, .slice A0_1 l0_1.length c0_1]) (t := 44) ?hr ?_; (case hd => rfl); (case hg => rfl); (case hr => first | (go_simp; done) | (go_simp; rfl)); intro gb hgb w1 hbox hb; have HB1 := Aside0.mk hb; have hz0 : w1.cell? ⟨gb, 0, none⟩ = some (.slice A0_0 l0_0.length c0_0) := (blk_cell hbox 0).trans rfl; have hz1 : w1.cell? ⟨gb, 1, none⟩ = some (.slice A0_1 l0_1.length c0_1) := (blk_cell hbox 1).trans rfl; clear hb hbox hgb) | (go_at_call 75; refine (HC.out _ HB1.out).mono ?_; rintro e w' ⟨rfl, hb⟩; have HB := Aside0.mk (below_step HB1.out hb); clear hb))
  go_ret
  exact ⟨rfl, HB.out⟩
set_option maxHeartbeats 8000000 in
theorem impl_meanders.calls (k : Nat) (a0 : Int) (r : List (S44)) (w : World) (h : impl_meanders.f k a0 = some r) :
    Calls Try.prog 71 #[.int .i64 a0] w fun e w' => ∃ v0_ : Value, e = .returned (v0_) ∧ Kd.N k44 44 w' w.heap.size (fun k_ => (w.heap.size ≤ k_)) v0_ r ∧ Below w.heap.size w w' := by
  have eg := fun args w => enters_ (P := Try.prog) Try.func96 (by kernel_rfl) rfl args w
  have HE := Aside0.mk eg
  clear eg
  obtain ⟨xs, h1, h⟩ := Option.bind_eq_some_iff.1 h
  have HS := Aside0.mk (impl_pairs.calls k a0 xs w h1)
  clear h1
  by_cases hx : 0 < xs.length ∧ xs.length < 4611686018427387904
  · rw [if_pos hx] at h
    obtain ⟨p, hp, rfl⟩ := filtM_some h
    have HX := Aside0.mk hx
    have HP := Aside0.mk hp
    clear h hx hp
    go_enter Try.func71, Try.ntmps71
    go_wp2_with (first | (go_at_call 68; refine HS.out.mono ?_; rintro e w1 ⟨v1, rfl, ho, hb⟩; have HN := Aside0.mk ho; have HB := Aside0.mk hb; clear ho hb; obtain ⟨g1, cap1, e1, _⟩ := Kd.N_form HN.out HX.out.1; subst e1) | (go_at_call 95; refine (impl_meanders.delete (fun x => !p x) 96 #[] HE.out w1 HN.out HB.out.size (by have := HX.out.2; omega) ?hp).mono ?_; (case hp => intro W x u0 u1 hx_ hbW hK; obtain ⟨A0, c0, A1, c1, e_, l0, r0, l1, r1⟩ := k44_open hK; (injection e_ with e1_ e2_); (injection e2_ with e2_); rw [e1_, e2_]; exact impl_meanders.clo k A0 c0 x.f0 A1 c1 x.f1 (p x) W r0 l0 r1 l1 (HP.out x hx_)); rintro e w2 ⟨v2, rfl, ho, hb⟩; have HO := Aside0.mk ho; have HB2 := Aside0.mk (HB.out.trans hb); clear ho hb))
    go_ret
    refine ⟨_, rfl, ?_, HB2.out⟩
    have h_ := HO.out
    rw [show (xs.filter fun x => !(!p x)) = xs.filter p by congr 1; funext x; simp] at h_
    exact h_
  · rw [if_neg hx] at h
    cases h

/-! ### impl_in: function 60 -/
def impl_in.f (a0 : Int) (a1 : Int) (a2 : Int) : Option (Bool) := if a1 ≤ a0 then (some (decide (a0 ≤ a2))) else (some false)
set_option maxHeartbeats 8000000 in
set_option maxRecDepth 100000 in
theorem impl_in.calls (a0 : Int) (a1 : Int) (a2 : Int) (r : Bool) (w : World) (h : impl_in.f a0 a1 a2 = some r) :
    Calls Try.prog 60 #[.int .i64 a0, .int .i64 a1, .int .i64 a2] w fun e w' => e = .returned (.bool r) ∧ Drawn0 w w' := by
  have H : (if a1 ≤ a0 then (some (decide (a0 ≤ a2))) else (some false)) = some r := h
  clear h
  by_cases c4 : a1 ≤ a0
  · rw [if_pos c4] at H
    have c4b0 : decide (a1 ≤ a0) = true := decide_eq_true c4
    clear c4
    obtain rfl := Option.some.inj H
    go_enter Try.func60, Try.ntmps60
    go_wp2
    go_ret
    exact ⟨by first | rfl | (simp; done) | (simp [*]; done), by repeat (first | exact Drawn0.refl _ | apply Drawn0.step)⟩
  · rw [if_neg c4] at H
    have c4b0 : decide (a1 ≤ a0) = false := decide_eq_false c4
    clear c4
    obtain rfl := Option.some.inj H
    go_enter Try.func60, Try.ntmps60
    go_wp2
    go_ret
    exact ⟨by first | rfl | (simp; done) | (simp [*]; done), by repeat (first | exact Drawn0.refl _ | apply Drawn0.step)⟩

/-! ### impl_isSystem: function 88 -/
mutual
def impl_isSystem.l0 : Nat → List Int → List Int → Int → Int → Option (Bool)
  | 0, _, _, _, _ => none
  | k + 1, x0, x8, x9, x10 => if x10 < x9 then (if 0 ≤ x10 then (if x10 < (x8.length : Int) then ((impl_in.f (rd x8 x10) 0 (wrap64 ((x0.length : Int) - 1))).bind fun t378 => (if t378 = true then (if (rd x8 x10) = x10 then (some false) else (if 0 ≤ (rd x8 x10) then (if (rd x8 x10) < (x0.length : Int) then (if (rd x0 (rd x8 x10)) = x10 then (impl_isSystem.l0 k x0 x8 x9 (wrap64 (x10 + 1))) else (some false)) else (none)) else (none))) else (some false))) else (none)) else (none)) else (impl_isSystem.l1 k x0 x0 (x0.length : Int) 0)
def impl_isSystem.l1 : Nat → List Int → List Int → Int → Int → Option (Bool)
  | 0, _, _, _, _ => none
  | k + 1, x0, x35, x36, x37 => if x37 < x36 then (if 0 ≤ x37 then (if x37 < (x35.length : Int) then (impl_isSystem.l2 k x0 x37 (rd x35 x37) (wrap64 (x37 + 1)) x35 x36 x37) else (none)) else (none)) else (some true)
def impl_isSystem.l2 : Nat → List Int → Int → Int → Int → List Int → Int → Int → Option (Bool)
  | 0, _, _, _, _, _, _, _ => none
  | k + 1, x0, x5, x6, x7, x35, x36, x37 => if x7 < x6 then (if 0 ≤ x7 then (if x7 < (x0.length : Int) then ((impl_in.f (rd x0 x7) x5 x6).bind fun t382 => (if t382 = true then (impl_isSystem.l2 k x0 x5 x6 (wrap64 (x7 + 1)) x35 x36 x37) else (some false))) else (none)) else (none)) else (impl_isSystem.l1 k x0 x35 x36 (wrap64 (x37 + 1)))
end
def impl_isSystem.f (k : Nat) (l0 : List Int) : Option (Bool) := impl_isSystem.l0 k l0 l0 (l0.length : Int) 0
theorem impl_isSystem.mono_l : ∀ k, (∀ y0 y1 y2 y3, LeO (impl_isSystem.l0 k y0 y1 y2 y3) (impl_isSystem.l0 (k + 1) y0 y1 y2 y3)) ∧ (∀ y0 y1 y2 y3, LeO (impl_isSystem.l1 k y0 y1 y2 y3) (impl_isSystem.l1 (k + 1) y0 y1 y2 y3)) ∧ (∀ y0 y1 y2 y3 y4 y5 y6, LeO (impl_isSystem.l2 k y0 y1 y2 y3 y4 y5 y6) (impl_isSystem.l2 (k + 1) y0 y1 y2 y3 y4 y5 y6))
  | 0 => ⟨fun _ _ _ _ r h => by simp [impl_isSystem.l0] at h, fun _ _ _ _ r h => by simp [impl_isSystem.l1] at h, fun _ _ _ _ _ _ _ r h => by simp [impl_isSystem.l2] at h⟩
  | k + 1 => by
    obtain ⟨ih0, ih1, ih2⟩ := impl_isSystem.mono_l k
    refine ⟨?_, ?_, ?_⟩
    · intro y0 y1 y2 y3
      unfold impl_isSystem.l0
      repeat' first
      | (with_reducible exact ih0 _ _ _ _)
      | (with_reducible exact ih1 _ _ _ _)
      | (with_reducible exact ih2 _ _ _ _ _ _ _)
      | (with_reducible exact LeO.refl _)
      | (with_reducible exact LeO.none _)
      | (with_reducible refine LeO.ite ?_ ?_)
      | (with_reducible refine LeO.bind ?_ (fun _ => ?_))
      | exact ih0 _ _ _ _
      | exact ih1 _ _ _ _
      | exact ih2 _ _ _ _ _ _ _
      | exact LeO.none _
      | refine LeO.ite ?_ ?_
      | refine LeO.bind ?_ (fun _ => ?_)
    · intro y0 y1 y2 y3
      unfold impl_isSystem.l1
      repeat' first
      | (with_reducible exact ih0 _ _ _ _)
      | (with_reducible exact ih1 _ _ _ _)
      | (with_reducible exact ih2 _ _ _ _ _ _ _)
      | (with_reducible exact LeO.refl _)
      | (with_reducible exact LeO.none _)
      | (with_reducible refine LeO.ite ?_ ?_)
      | (with_reducible refine LeO.bind ?_ (fun _ => ?_))
      | exact ih0 _ _ _ _
      | exact ih1 _ _ _ _
      | exact ih2 _ _ _ _ _ _ _
      | exact LeO.none _
      | refine LeO.ite ?_ ?_
      | refine LeO.bind ?_ (fun _ => ?_)
    · intro y0 y1 y2 y3 y4 y5 y6
      unfold impl_isSystem.l2
      repeat' first
      | (with_reducible exact ih0 _ _ _ _)
      | (with_reducible exact ih1 _ _ _ _)
      | (with_reducible exact ih2 _ _ _ _ _ _ _)
      | (with_reducible exact LeO.refl _)
      | (with_reducible exact LeO.none _)
      | (with_reducible refine LeO.ite ?_ ?_)
      | (with_reducible refine LeO.bind ?_ (fun _ => ?_))
      | exact ih0 _ _ _ _
      | exact ih1 _ _ _ _
      | exact ih2 _ _ _ _ _ _ _
      | exact LeO.none _
      | refine LeO.ite ?_ ?_
      | refine LeO.bind ?_ (fun _ => ?_)
theorem impl_isSystem.mono : ∀ a0 k, LeO (impl_isSystem.f k a0) (impl_isSystem.f (k + 1) a0) := by
  intro a0 k
  obtain ⟨ih0, ih1, ih2⟩ := impl_isSystem.mono_l k
  unfold impl_isSystem.f
  repeat' first
      | (with_reducible exact ih0 _ _ _ _)
      | (with_reducible exact ih1 _ _ _ _)
      | (with_reducible exact ih2 _ _ _ _ _ _ _)
      | (with_reducible exact LeO.refl _)
      | (with_reducible exact LeO.none _)
      | (with_reducible refine LeO.ite ?_ ?_)
      | (with_reducible refine LeO.bind ?_ (fun _ => ?_))
      | exact ih0 _ _ _ _
      | exact ih1 _ _ _ _
      | exact ih2 _ _ _ _ _ _ _
      | exact LeO.none _
      | refine LeO.ite ?_ ?_
      | refine LeO.bind ?_ (fun _ => ?_)
set_option maxHeartbeats 8000000 in
set_option maxRecDepth 100000 in
theorem impl_isSystem.calls (k : Nat) (A0 : Option Addr) (c0 : Nat) (l0 : List Int) (r : Bool) (w : World) (hr0 : Kd.C (Kd.int .i64) w A0 l0.length l0) (hc0 : l0.length ≤ c0) (h : impl_isSystem.f k l0 = some r) :
    Calls Try.prog 88 #[.slice A0 l0.length c0] w fun e w' => e = .returned (.bool r) ∧ Drawn0 w w' := by
  have HR0 := Aside0.mk hr0
  have HC0 := Aside0.mk hc0
  clear hr0 hc0
  have H : (impl_isSystem.l0 k l0 l0 (l0.length : Int) 0) = some r := h
  clear h
  have H' := Aside0.mk H
  clear H
  go_enter Try.func88, Try.ntmps88
  go_wp2
  go_loopg [10] k (fun kq v10 w' => ∃ (x10_1 : Int), v10 = .int .i64 x10_1 ∧ Aside0 (impl_isSystem.l0 kq l0 l0 (l0.length : Int) x10_1 = some r) ∧ Aside0 (kq ≤ k) ∧ Drawn0 w w')
  case atStart => exact ⟨(0), (by first | rfl | (simp; done) | (simp [*]; done)), H', ⟨Nat.le_refl _⟩, by repeat (first | exact Drawn0.refl _ | apply Drawn0.step)⟩
  case round =>
    clear H'
    obtain ⟨x10_1, rfl, HA, HK1, ⟨m1, rfl⟩⟩ := hrel
    cases gk with
    | zero => exact absurd HA.out (by simp [impl_isSystem.l0])
    | succ k1 =>
      have H := HA.out
      clear HA
      simp only [impl_isSystem.l0] at H
      by_cases c2 : x10_1 < (l0.length : Int)
      · rw [if_pos c2] at H
        have c2b0 : decide (x10_1 < (l0.length : Int)) = true := decide_eq_true c2
        clear c2
        by_cases c3 : 0 ≤ x10_1
        · rw [if_pos c3] at H
          have c3b0 : decide (0 ≤ x10_1) = true := decide_eq_true c3
          clear c3
          by_cases c4 : x10_1 < (l0.length : Int)
          · rw [if_pos c4] at H
            have c4b0 : decide (x10_1 < (l0.length : Int)) = true := decide_eq_true c4
            clear c4
            replace H := Option.bind_eq_some_iff.mp H
            obtain ⟨t378, A50, H⟩ := H
            replace H : (if t378 = true then (if (rd l0 x10_1) = x10_1 then (some false) else (if 0 ≤ (rd l0 x10_1) then (if (rd l0 x10_1) < (l0.length : Int) then (if (rd l0 (rd l0 x10_1)) = x10_1 then (impl_isSystem.l0 k1 l0 l0 (l0.length : Int) (wrap64 (x10_1 + 1))) else (some false)) else (none)) else (none))) else (some false)) = some r := H
            have A5 := Aside0.mk A50
            clear A50
            by_cases c6 : t378 = true
            · subst c6
              have H1 : (if (rd l0 x10_1) = x10_1 then (some false) else (if 0 ≤ (rd l0 x10_1) then (if (rd l0 x10_1) < (l0.length : Int) then (if (rd l0 (rd l0 x10_1)) = x10_1 then (impl_isSystem.l0 k1 l0 l0 (l0.length : Int) (wrap64 (x10_1 + 1))) else (some false)) else (none)) else (none))) = some r := by rw [if_pos rfl] at H; exact H
              clear H
              have H := H1
              clear H1
              by_cases c7 : (rd l0 x10_1) = x10_1
              · rw [if_pos c7] at H
                have c7b0 : ((rd l0 x10_1) == x10_1) = true := beq_iff_eq.mpr c7
                have c7b1 : ((rd l0 x10_1) != x10_1) = false := bne_eq_false_iff_eq.mpr c7
                clear c7
                obtain rfl := Option.some.inj H
                have p377 : 0 ≤ (x10_1 : Int) := of_decide_eq_true (by first | (with_reducible assumption) | assumption)
                have q377 : x10_1 < (l0.length : Int) := of_decide_eq_true (by first | (with_reducible assumption) | assumption)
                obtain ⟨ad377, e377, hx377_0⟩ := Kd.at_int HR0.out x10_1 p377 q377
                cases e377
                replace p377 := eq_true p377
                replace q377 := eq_true q377
                go_wp2_with (first | ((with_reducible refine gate_callee (f := 60) rfl ?_); refine goesL_ (some 19) rfl rfl Try.func60 (by kernel_rfl) rfl #[.int .i64 (rd l0 x10_1), .int .i64 0, .int .i64 (wrap64 ((l0.length : Int) - 1))] rfl (by (try simp only [List.map_toArray, List.map_cons, List.map_nil]); first | done | rfl | (simp only [List.length_drop, List.length_take]; rfl)) ?_; (with_reducible refine (impl_in.calls (rd l0 x10_1) 0 (wrap64 ((l0.length : Int) - 1)) true _ A5.out).mono ?_); rintro e w' ⟨rfl, ⟨nd, rfl⟩⟩; refine ⟨_, rfl, ?_⟩))
                go_ret
                exact ⟨by first | rfl | (simp; done) | (simp [*]; done), by repeat (first | exact Drawn0.refl _ | apply Drawn0.step)⟩
              · rw [if_neg c7] at H
                have c7b0 : ((rd l0 x10_1) == x10_1) = false := beq_eq_false_iff_ne.mpr c7
                have c7b1 : ((rd l0 x10_1) != x10_1) = true := bne_iff_ne.mpr c7
                by_cases c8 : 0 ≤ (rd l0 x10_1)
                · rw [if_pos c8] at H
                  have c8b0 : decide (0 ≤ (rd l0 x10_1)) = true := decide_eq_true c8
                  clear c8
                  by_cases c9 : (rd l0 x10_1) < (l0.length : Int)
                  · rw [if_pos c9] at H
                    have c9b0 : decide ((rd l0 x10_1) < (l0.length : Int)) = true := decide_eq_true c9
                    clear c9
                    by_cases c10 : (rd l0 (rd l0 x10_1)) = x10_1
                    · rw [if_pos c10] at H
                      have c10b0 : ((rd l0 (rd l0 x10_1)) == x10_1) = true := beq_iff_eq.mpr c10
                      have c10b1 : ((rd l0 (rd l0 x10_1)) != x10_1) = false := bne_eq_false_iff_eq.mpr c10
                      clear c10
                      have H' := Aside0.mk H
                      clear H
                      have p377 : 0 ≤ (x10_1 : Int) := of_decide_eq_true (by first | (with_reducible assumption) | assumption)
                      have q377 : x10_1 < (l0.length : Int) := of_decide_eq_true (by first | (with_reducible assumption) | assumption)
                      obtain ⟨ad377, e377, hx377_0⟩ := Kd.at_int HR0.out x10_1 p377 q377
                      cases e377
                      replace p377 := eq_true p377
                      replace q377 := eq_true q377
                      go_wp2_with (first | ((with_reducible refine gate_callee (f := 60) rfl ?_); refine goesL_ (some 19) rfl rfl Try.func60 (by kernel_rfl) rfl #[.int .i64 (rd l0 x10_1), .int .i64 0, .int .i64 (wrap64 ((l0.length : Int) - 1))] rfl (by (try simp only [List.map_toArray, List.map_cons, List.map_nil]); first | done | rfl | (simp only [List.length_drop, List.length_take]; rfl)) ?_; (with_reducible refine (impl_in.calls (rd l0 x10_1) 0 (wrap64 ((l0.length : Int) - 1)) true _ A5.out).mono ?_); rintro e w' ⟨rfl, ⟨nd, rfl⟩⟩; refine ⟨_, rfl, ?_⟩; have p379 : 0 ≤ ((rd l0 x10_1) : Int) := of_decide_eq_true (by first | (with_reducible assumption) | assumption); have q379 : (rd l0 x10_1) < (l0.length : Int) := of_decide_eq_true (by first | (with_reducible assumption) | assumption); obtain ⟨ad379, e379, hx379_0⟩ := Kd.at_int HR0.out (rd l0 x10_1) p379 q379; obtain rfl : ad377 = ad379 := (by injection e379); replace p379 := eq_true p379; replace q379 := eq_true q379))
                      go_roundg k1
                      case measure => have := HK1.out; omega
                      case rel => exact ⟨(wrap64 (x10_1 + 1)), (by first | rfl | (simp; done) | (simp [*]; done)), H', ⟨by have := HK1.out; omega⟩, by repeat (first | exact Drawn0.refl _ | apply Drawn0.step)⟩
                    · rw [if_neg c10] at H
                      have c10b0 : ((rd l0 (rd l0 x10_1)) == x10_1) = false := beq_eq_false_iff_ne.mpr c10
                      have c10b1 : ((rd l0 (rd l0 x10_1)) != x10_1) = true := bne_iff_ne.mpr c10
                      obtain rfl := Option.some.inj H
                      have p377 : 0 ≤ (x10_1 : Int) := of_decide_eq_true (by first | (with_reducible assumption) | assumption)
                      have q377 : x10_1 < (l0.length : Int) := of_decide_eq_true (by first | (with_reducible assumption) | assumption)
                      obtain ⟨ad377, e377, hx377_0⟩ := Kd.at_int HR0.out x10_1 p377 q377
                      cases e377
                      replace p377 := eq_true p377
                      replace q377 := eq_true q377
                      go_wp2_with (first | ((with_reducible refine gate_callee (f := 60) rfl ?_); refine goesL_ (some 19) rfl rfl Try.func60 (by kernel_rfl) rfl #[.int .i64 (rd l0 x10_1), .int .i64 0, .int .i64 (wrap64 ((l0.length : Int) - 1))] rfl (by (try simp only [List.map_toArray, List.map_cons, List.map_nil]); first | done | rfl | (simp only [List.length_drop, List.length_take]; rfl)) ?_; (with_reducible refine (impl_in.calls (rd l0 x10_1) 0 (wrap64 ((l0.length : Int) - 1)) true _ A5.out).mono ?_); rintro e w' ⟨rfl, ⟨nd, rfl⟩⟩; refine ⟨_, rfl, ?_⟩; have p379 : 0 ≤ ((rd l0 x10_1) : Int) := of_decide_eq_true (by first | (with_reducible assumption) | assumption); have q379 : (rd l0 x10_1) < (l0.length : Int) := of_decide_eq_true (by first | (with_reducible assumption) | assumption); obtain ⟨ad379, e379, hx379_0⟩ := Kd.at_int HR0.out (rd l0 x10_1) p379 q379; obtain rfl : ad377 = ad379 := (by injection e379); replace p379 := eq_true p379; replace q379 := eq_true q379))
                      go_ret
                      exact ⟨by first | rfl | (simp; done) | (simp [*]; done), by repeat (first | exact Drawn0.refl _ | apply Drawn0.step)⟩
                  · rw [if_neg c9] at H
                    exact absurd H (by simp)
                · rw [if_neg c8] at H
                  exact absurd H (by simp)
            · replace c6 := Bool.eq_false_iff.mpr c6
              subst c6
              have H1 : (some false) = some r := by rw [if_neg (show ¬ (false = true) by decide)] at H; exact H
              clear H
              have H := H1
              clear H1
              obtain rfl := Option.some.inj H
              have p377 : 0 ≤ (x10_1 : Int) := of_decide_eq_true (by first | (with_reducible assumption) | assumption)
              have q377 : x10_1 < (l0.length : Int) := of_decide_eq_true (by first | (with_reducible assumption) | assumption)
              obtain ⟨ad377, e377, hx377_0⟩ := Kd.at_int HR0.out x10_1 p377 q377
              cases e377
              replace p377 := eq_true p377
              replace q377 := eq_true q377
              go_wp2_with (first | ((with_reducible refine gate_callee (f := 60) rfl ?_); refine goesL_ (some 19) rfl rfl Try.func60 (by kernel_rfl) rfl #[.int .i64 (rd l0 x10_1), .int .i64 0, .int .i64 (wrap64 ((l0.length : Int) - 1))] rfl (by (try simp only [List.map_toArray, List.map_cons, List.map_nil]); first | done | rfl | (simp only [List.length_drop, List.length_take]; rfl)) ?_; (with_reducible refine (impl_in.calls (rd l0 x10_1) 0 (wrap64 ((l0.length : Int) - 1)) false _ A5.out).mono ?_); rintro e w' ⟨rfl, ⟨nd, rfl⟩⟩; refine ⟨_, rfl, ?_⟩))
              go_ret
              exact ⟨by first | rfl | (simp; done) | (simp [*]; done), by repeat (first | exact Drawn0.refl _ | apply Drawn0.step)⟩
          · rw [if_neg c4] at H
            exact absurd H (by simp)
        · rw [if_neg c3] at H
          exact absurd H (by simp)
      · rw [if_neg c2] at H
        have c2b0 : decide (x10_1 < (l0.length : Int)) = false := decide_eq_false c2
        clear c2
        have H' := Aside0.mk H
        clear H
        go_wp2
        go_loopg [37] k1 (fun kq v37 w' => ∃ (x37_2 : Int), v37 = .int .i64 x37_2 ∧ Aside0 (impl_isSystem.l1 kq l0 l0 (l0.length : Int) x37_2 = some r) ∧ Aside0 (kq ≤ k1) ∧ Drawn0 w w')
        case atStart => exact ⟨(0), (by first | rfl | (simp; done) | (simp [*]; done)), H', ⟨Nat.le_refl _⟩, by repeat (first | exact Drawn0.refl _ | apply Drawn0.step)⟩
        case round =>
          clear H'
          try clear c1
          try clear c2
          try clear c2b0
          try clear p2
          try clear c3
          try clear c3b0
          try clear p3
          try clear q3
          try clear hx3
          try clear c4
          try clear c4b0
          try clear c6
          try clear p6
          try clear c7
          try clear c7b0
          try clear c7b1
          try clear c8
          try clear c8b0
          try clear c9
          try clear c9b0
          try clear c10
          try clear c10b0
          try clear c10b1
          try clear hx377_0
          try clear hx379_0
          try clear p377
          try clear p379
          try clear q377
          try clear q379
          obtain ⟨x37_2, rfl, HA, HK2, ⟨m2, rfl⟩⟩ := hrel
          cases gk with
          | zero => exact absurd HA.out (by simp [impl_isSystem.l1])
          | succ k2 =>
            have H := HA.out
            clear HA
            simp only [impl_isSystem.l1] at H
            by_cases c11 : x37_2 < (l0.length : Int)
            · rw [if_pos c11] at H
              have c11b0 : decide (x37_2 < (l0.length : Int)) = true := decide_eq_true c11
              clear c11
              by_cases c12 : 0 ≤ x37_2
              · rw [if_pos c12] at H
                have c12b0 : decide (0 ≤ x37_2) = true := decide_eq_true c12
                clear c12
                by_cases c13 : x37_2 < (l0.length : Int)
                · rw [if_pos c13] at H
                  have c13b0 : decide (x37_2 < (l0.length : Int)) = true := decide_eq_true c13
                  clear c13
                  have H' := Aside0.mk H
                  clear H
                  have p380 : 0 ≤ (x37_2 : Int) := of_decide_eq_true (by first | (with_reducible assumption) | assumption)
                  have q380 : x37_2 < (l0.length : Int) := of_decide_eq_true (by first | (with_reducible assumption) | assumption)
                  obtain ⟨ad380, e380, hx380_0⟩ := Kd.at_int HR0.out x37_2 p380 q380
                  cases e380
                  replace p380 := eq_true p380
                  replace q380 := eq_true q380
                  go_wp2
                  go_loopg [7] k2 (fun kq v7 w' => ∃ (x7_3 : Int), v7 = .int .i64 x7_3 ∧ Aside0 (impl_isSystem.l2 kq l0 x37_2 (rd l0 x37_2) x7_3 l0 (l0.length : Int) x37_2 = some r) ∧ Aside0 (kq ≤ k2) ∧ Drawn0 w w')
                  case atStart => exact ⟨(wrap64 (x37_2 + 1)), (by first | rfl | (simp; done) | (simp [*]; done)), H', ⟨Nat.le_refl _⟩, by repeat (first | exact Drawn0.refl _ | apply Drawn0.step)⟩
                  case round =>
                    clear H'
                    try clear c1
                    try clear c2
                    try clear c2b0
                    try clear p2
                    try clear c3
                    try clear c3b0
                    try clear p3
                    try clear q3
                    try clear hx3
                    try clear c4
                    try clear c4b0
                    try clear c6
                    try clear p6
                    try clear c7
                    try clear c7b0
                    try clear c7b1
                    try clear c8
                    try clear c8b0
                    try clear c9
                    try clear c9b0
                    try clear c10
                    try clear c10b0
                    try clear c10b1
                    try clear c11
                    try clear c11b0
                    try clear c12
                    try clear c12b0
                    try clear c13
                    try clear c13b0
                    try clear hx377_0
                    try clear hx379_0
                    try clear hx380_0
                    try clear p2
                    try clear p3
                    try clear p377
                    try clear p379
                    try clear p380
                    try clear p6
                    try clear q3
                    try clear q377
                    try clear q379
                    try clear q380
                    obtain ⟨x7_3, rfl, HA, HK3, ⟨m3, rfl⟩⟩ := hrel
                    cases gk with
                    | zero => exact absurd HA.out (by simp [impl_isSystem.l2])
                    | succ k3 =>
                      have H := HA.out
                      clear HA
                      simp only [impl_isSystem.l2] at H
                      by_cases c14 : x7_3 < (rd l0 x37_2)
                      · rw [if_pos c14] at H
                        have c14b0 : decide (x7_3 < (rd l0 x37_2)) = true := decide_eq_true c14
                        clear c14
                        by_cases c15 : 0 ≤ x7_3
                        · rw [if_pos c15] at H
                          have c15b0 : decide (0 ≤ x7_3) = true := decide_eq_true c15
                          clear c15
                          by_cases c16 : x7_3 < (l0.length : Int)
                          · rw [if_pos c16] at H
                            have c16b0 : decide (x7_3 < (l0.length : Int)) = true := decide_eq_true c16
                            clear c16
                            replace H := Option.bind_eq_some_iff.mp H
                            obtain ⟨t382, A170, H⟩ := H
                            replace H : (if t382 = true then (impl_isSystem.l2 k3 l0 x37_2 (rd l0 x37_2) (wrap64 (x7_3 + 1)) l0 (l0.length : Int) x37_2) else (some false)) = some r := H
                            have A17 := Aside0.mk A170
                            clear A170
                            by_cases c18 : t382 = true
                            · subst c18
                              have H1 : (impl_isSystem.l2 k3 l0 x37_2 (rd l0 x37_2) (wrap64 (x7_3 + 1)) l0 (l0.length : Int) x37_2) = some r := by rw [if_pos rfl] at H; exact H
                              clear H
                              have H := H1
                              clear H1
                              have H' := Aside0.mk H
                              clear H
                              have p381 : 0 ≤ (x7_3 : Int) := of_decide_eq_true (by first | (with_reducible assumption) | assumption)
                              have q381 : x7_3 < (l0.length : Int) := of_decide_eq_true (by first | (with_reducible assumption) | assumption)
                              obtain ⟨ad381, e381, hx381_0⟩ := Kd.at_int HR0.out x7_3 p381 q381
                              obtain rfl : ad380 = ad381 := (by injection e381)
                              replace p381 := eq_true p381
                              replace q381 := eq_true q381
                              go_wp2_with (first | ((with_reducible refine gate_callee (f := 60) rfl ?_); refine goesL_ (some 55) rfl rfl Try.func60 (by kernel_rfl) rfl #[.int .i64 (rd l0 x7_3), .int .i64 x37_2, .int .i64 (rd l0 x37_2)] rfl (by (try simp only [List.map_toArray, List.map_cons, List.map_nil]); first | done | rfl | (simp only [List.length_drop, List.length_take]; rfl)) ?_; (with_reducible refine (impl_in.calls (rd l0 x7_3) x37_2 (rd l0 x37_2) true _ A17.out).mono ?_); rintro e w' ⟨rfl, ⟨nd, rfl⟩⟩; refine ⟨_, rfl, ?_⟩))
                              go_roundg k3
                              case measure => have := HK1.out; have := HK2.out; have := HK3.out; omega
                              case rel => exact ⟨(wrap64 (x7_3 + 1)), (by first | rfl | (simp; done) | (simp [*]; done)), H', ⟨by have := HK1.out; have := HK2.out; have := HK3.out; omega⟩, by repeat (first | exact Drawn0.refl _ | apply Drawn0.step)⟩
                            · replace c18 := Bool.eq_false_iff.mpr c18
                              subst c18
                              have H1 : (some false) = some r := by rw [if_neg (show ¬ (false = true) by decide)] at H; exact H
                              clear H
                              have H := H1
                              clear H1
                              obtain rfl := Option.some.inj H
                              have p381 : 0 ≤ (x7_3 : Int) := of_decide_eq_true (by first | (with_reducible assumption) | assumption)
                              have q381 : x7_3 < (l0.length : Int) := of_decide_eq_true (by first | (with_reducible assumption) | assumption)
                              obtain ⟨ad381, e381, hx381_0⟩ := Kd.at_int HR0.out x7_3 p381 q381
                              obtain rfl : ad380 = ad381 := (by injection e381)
                              replace p381 := eq_true p381
                              replace q381 := eq_true q381
                              go_wp2_with (first | ((with_reducible refine gate_callee (f := 60) rfl ?_); refine goesL_ (some 55) rfl rfl Try.func60 (by kernel_rfl) rfl #[.int .i64 (rd l0 x7_3), .int .i64 x37_2, .int .i64 (rd l0 x37_2)] rfl (by (try simp only [List.map_toArray, List.map_cons, List.map_nil]); first | done | rfl | (simp only [List.length_drop, List.length_take]; rfl)) ?_; (with_reducible refine (impl_in.calls (rd l0 x7_3) x37_2 (rd l0 x37_2) false _ A17.out).mono ?_); rintro e w' ⟨rfl, ⟨nd, rfl⟩⟩; refine ⟨_, rfl, ?_⟩))
                              go_ret
                              exact ⟨by first | rfl | (simp; done) | (simp [*]; done), by repeat (first | exact Drawn0.refl _ | apply Drawn0.step)⟩
                          · rw [if_neg c16] at H
                            exact absurd H (by simp)
                        · rw [if_neg c15] at H
                          exact absurd H (by simp)
                      · rw [if_neg c14] at H
                        have c14b0 : decide (x7_3 < (rd l0 x37_2)) = false := decide_eq_false c14
                        clear c14
                        have H' := Aside0.mk H
                        clear H
                        go_wp2
                        go_roundg k3
                        case measure => have := HK1.out; have := HK2.out; have := HK3.out; omega
                        case rel => exact ⟨(wrap64 (x37_2 + 1)), (by first | rfl | (simp; done) | (simp [*]; done)), H', ⟨by have := HK1.out; have := HK2.out; have := HK3.out; omega⟩, by repeat (first | exact Drawn0.refl _ | apply Drawn0.step)⟩
                · rw [if_neg c13] at H
                  exact absurd H (by simp)
              · rw [if_neg c12] at H
                exact absurd H (by simp)
            · rw [if_neg c11] at H
              have c11b0 : decide (x37_2 < (l0.length : Int)) = false := decide_eq_false c11
              clear c11
              obtain rfl := Option.some.inj H
              go_wp2
              go_ret
              exact ⟨by first | rfl | (simp; done) | (simp [*]; done), by repeat (first | exact Drawn0.refl _ | apply Drawn0.step)⟩

end Go.Proofs.Ytpepnlcelllhkaa.QFnExactRankMeander
