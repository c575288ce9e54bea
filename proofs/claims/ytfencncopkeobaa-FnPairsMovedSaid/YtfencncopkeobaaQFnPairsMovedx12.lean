-- Written by wip/myprint.py (a program of mine round the kit's printer). Lean checks it.
import Derived.Test.YtfencncopkeobaaQFnPairsMovedx0
import Derived.Test.YtfencncopkeobaaQFnPairsMovedx1
import Derived.Test.YtfencncopkeobaaQFnPairsMovedx2
import Derived.Test.YtfencncopkeobaaQFnPairsMovedx4
import Derived.Test.YtfencncopkeobaaQFnPairsMovedx5
import Derived.Test.YtfencncopkeobaaQFnPairsMovedx9
import Derived.Test.YtfencncopkeobaaQFnPairsMovedx11
namespace Go.Proofs.Ytfencncopkeobaa.QFnPairsMoved
open Go.RowKit Go.Proofs.YtfencncopkeobaaW.PrintWords Go.Proofs.YtfencncopkeobaaW.PrintLast Go.Proofs.YtfencncopkeobaaW.PrintMore
attribute [local go_sem] max2_int min2_int max_two min_two max_three min_three max_four min_four
set_option linter.unusedVariables false
set_option linter.unusedSimpArgs false
set_option maxHeartbeats 8000000
set_option maxRecDepth 100000
def impl_meanderText.f (k : Nat) (l0_0 : List Int) (l0_1 : List Int) : Option (ByteArray) := (impl_systemText.f k l0_0).bind fun t577 => (if t577.size + 1 ≤ 9223372036854775807 then ((impl_systemText.f k l0_1).bind fun t578 => (if (t577 ++ (⟨#[124]⟩ : ByteArray)).size + t578.size ≤ 9223372036854775807 then (some ((t577 ++ (⟨#[124]⟩ : ByteArray)) ++ t578)) else (none))) else (none))
def impl_meanderText.T1 : Bool × List (List Nat × List Nat) := (true, [([], []), ([0], [0]), ([1], [1]), ([2], [2]), ([], []), ([4], [4]), ([5, 2], [5]), ([3, 6], [3, 6]), ([7, 6, 0, 1, 2, 3, 4, 5, 6, 7], [7])])
def impl_meanderText.B1 : List Nat := [0, 1, 3, 7, 0, 16, 55, 127, 255]
theorem impl_meanderText.tab1 : rtab .any (opsOf Try.f72 1) = impl_meanderText.T1 := by kernel_rfl
theorem impl_meanderText.bits1 : waitsOk impl_meanderText.T1.2 impl_meanderText.B1 = true := by kernel_rfl
theorem impl_meanderText.calls (k : Nat) (A0_0 : Option Addr) (c0_0 : Nat) (l0_0 : List Int) (A0_1 : Option Addr) (c0_1 : Nat) (l0_1 : List Int) (r : ByteArray) (w : World) (hr0_0 : Kd.C (Kd.int .i64) w A0_0 l0_0.length l0_0) (hc0_0 : l0_0.length ≤ c0_0) (hr0_1 : Kd.C (Kd.int .i64) w A0_1 l0_1.length l0_1) (hc0_1 : l0_1.length ≤ c0_1) (h : impl_meanderText.f k l0_0 l0_1 = some r) :
 Calls Try.prog 72 #[.agg #[.slice A0_0 l0_0.length c0_0, .slice A0_1 l0_1.length c0_1]] w fun e w' => e = .returned (.string r) ∧ Below w.heap.size w w' := by
 have hu26 := Try.underlying26
 have HR0_0 := am hr0_0
 have HC0_0 := am hc0_0
 clear hr0_0 hc0_0
 have HR0_1 := am hr0_1
 have HC0_1 := am hc0_1
 clear hr0_1 hc0_1
 have HB := am (Below.refl w.heap.size w)
 have H : ((impl_systemText.f k l0_0).bind fun t577 => (if t577.size + 1 ≤ 9223372036854775807 then ((impl_systemText.f k l0_1).bind fun t578 => (if (t577 ++ (⟨#[124]⟩ : ByteArray)).size + t578.size ≤ 9223372036854775807 then (some ((t577 ++ (⟨#[124]⟩ : ByteArray)) ++ t578)) else (none))) else (none))) = some r := h
 clear h
 replace H := Option.bind_eq_some_iff.mp H
 obtain ⟨t577, A20, H⟩ := H
 replace H : (if t577.size + 1 ≤ 9223372036854775807 then ((impl_systemText.f k l0_1).bind fun t578 => (if (t577 ++ (⟨#[124]⟩ : ByteArray)).size + t578.size ≤ 9223372036854775807 then (some ((t577 ++ (⟨#[124]⟩ : ByteArray)) ++ t578)) else (none))) else (none)) = some r := H
 have A2 := am A20
 clear A20
 by_cases c3 : t577.size + 1 ≤ 9223372036854775807
 ·rw [if_pos c3] at H
  have c3b0 := eq_true c3
  have c3b1 : decide (t577.size + 1 ≤ 9223372036854775807) = true := decide_eq_true c3
  try have c3b2 : (9223372036854775807 < t577.size + 1) = False := eq_false (Nat.not_lt.2 c3)
  replace H := Option.bind_eq_some_iff.mp H
  obtain ⟨t578, A40, H⟩ := H
  replace H : (if (t577 ++ (⟨#[124]⟩ : ByteArray)).size + t578.size ≤ 9223372036854775807 then (some ((t577 ++ (⟨#[124]⟩ : ByteArray)) ++ t578)) else (none)) = some r := H
  have A4 := am A40
  clear A40
  by_cases c5 : (t577 ++ (⟨#[124]⟩ : ByteArray)).size + t578.size ≤ 9223372036854775807
  ·rw [if_pos c5] at H
   have c5b0 := eq_true c5
   have c5b1 : decide ((t577 ++ (⟨#[124]⟩ : ByteArray)).size + t578.size ≤ 9223372036854775807) = true := decide_eq_true c5
   try have c5b2 : (9223372036854775807 < (t577 ++ (⟨#[124]⟩ : ByteArray)).size + t578.size) = False := eq_false (Nat.not_lt.2 c5)
   have c5b3 : (9223372036854775807 < t577.size + 1 + t578.size) = False := eq_false (by have h0 := c5; rw [ByteArray.size_append] at h0; have h1 : (⟨#[124]⟩ : ByteArray).size = 1 := rfl; omega)
   obtain rfl := Option.some.inj H
   go_enter Try.func72, Try.ntmps72
   try go_wp2_with (first | ((with_reducible refine gate_dst (N := 1) rfl ?_); refine box_event ?hg (N := 1) ?hd (cs := #[.slice A0_0 l0_0.length c0_0, .slice A0_1 l0_1.length c0_1]) (t := 26) ?hr ?_; (case hd => rfl); (case hg => rfl); (case hr => first | (go_simp; done) | (go_simp; rfl)); intro gb576 hg w6 hbox hb; have BK576 := am (hbox); have GW576 := am ((by rw [hg]; exact (below_size (by repeat (with_reducible first | exact HB.out | apply bA | apply bN | apply bD))) : w.heap.size ≤ gb576)); have GE576 := am ((by rw [hg]; exact (below_size (by repeat (with_reducible first | exact HB.out | apply bA | apply bN | apply bD))) : w.heap.size ≤ gb576)); replace HB := am (below_step (by repeat (with_reducible first | exact HB.out | apply bA | apply bN | apply bD)) hb); clear hb hbox hg))
   replace BK576 := am (kC BK576.out)
   replace HB := am (below_drew1 HB.out)
   refine start_ (n := 9) (S := fun w' => w'.cell? ⟨gb576, 0, none⟩ = some (.slice A0_0 l0_0.length c0_0) ∧ w'.cell? ⟨gb576, 1, none⟩ = some (.slice A0_1 l0_1.length c0_1)) (ds := []) #[false, false, false, false, false, false, false, false, false] (by kernel_rfl) rfl rfl ⟨(blk_cell BK576.out 0).trans rfl, (blk_cell BK576.out 1).trans rfl⟩ (fun hHeld => ?_); refine with_tabW impl_meanderText.tab1 impl_meanderText.bits1 (fun HT_ HW_ => ?_)
   generalize w6.drew = w7 at BK576 HB hHeld ⊢
   refine pure_ (i := 0) (N := some 3) (v := ?_) (a' := ?_) #[true, false, false, false, false, false, false, false, false] rfl rfl (any_of HT_.out (by kernel_rfl)) (fun _ _ _ h => h) (Or.inl ⟨by rfl, ?_⟩) ?_ ?_
   rotate_left
   ·intro w'
    go_simp
    with_reducible rfl
   rotate_left
   ·simp only [Act.put, sI, s0_, s1_, i64_w, i32_w]
    rfl
   refine pure_ (i := 4) (N := some 7) (v := ?_) (a' := ?_) #[true, false, false, false, true, false, false, false, false] rfl rfl (any_of HT_.out (by kernel_rfl)) (fun _ _ _ h => h) (Or.inl ⟨by rfl, ?_⟩) ?_ ?_
   rotate_left
   ·intro w'
    go_simp
    with_reducible rfl
   rotate_left
   ·simp only [Act.put, sI, s0_, s1_, i64_w, i32_w]
    rfl
   refine take_ (i := 1) (N := some 4) (v := ?_) (a' := ?_) #[true, true, false, false, true, false, false, false, false] rfl rfl (take_ofW HT_.out HW_.out (by kernel_rfl)) (fun _ _ _ h => h) (Or.inl ⟨by rfl, ?_⟩) hHeld ?_ ?_
   rotate_left
   ·rintro w' ⟨s0, s1⟩
    go_simp
    with_reducible rfl
   rotate_left
   ·simp only [Act.put, sI, s0_, s1_, i64_w, i32_w]
    rfl
   refine take_ (i := 5) (N := some 8) (v := ?_) (a' := ?_) #[true, true, false, false, true, true, false, false, false] rfl rfl (take_ofW HT_.out HW_.out (by kernel_rfl)) (fun _ _ _ h => h) (Or.inl ⟨by rfl, ?_⟩) hHeld ?_ ?_
   rotate_left
   ·rintro w' ⟨s0, s1⟩
    go_simp
    with_reducible rfl
   rotate_left
   ·simp only [Act.put, sI, s0_, s1_, i64_w, i32_w]
    rfl
   refine one_ (i := 2) (N := some 5) #[true, true, true, false, true, true, false, false, false] rfl rfl (one_of HT_.out (by kernel_rfl)) (by decide) (fun K hK => ?_)
   refine goes_ Try.func89 (by kernel_rfl) rfl #[.slice A0_0 l0_0.length c0_0] (by rfl) rfl rfl (by (try simp only [mT, mC, mZ]); first | done | rfl) ?_
   with_reducible refine (impl_systemText.calls k _ _ l0_0 t577 _ ?side1 ?side2 A2.out).mono ?_
   (case side1 => repeat (first | exact (Kd.C_below HR0_0.out HB.out) | (with_reducible first | apply cA | apply cN | apply cD)))
   (case side2 => exact HC0_0.out)
   rintro e w8 ⟨rfl, hb⟩
   refine ⟨_, rfl, ?_⟩
   replace BK576 := am (blk_below (g := gb576) (o := .cells #[.slice A0_0 l0_0.length c0_0, .slice A0_1 l0_1.length c0_1] 26 (0, 0)) (by (with_reducible repeat (first | apply kB | apply kC | apply kE)); exact BK576.out) hb)
   replace HB := am (below_step (by repeat (with_reducible first | exact HB.out | apply bA | apply bN | apply bD | refine bS ?_ GE576.out)) hb)
   (try clear hb)
   (try clear hb2)
   (try clear hk)
   (try clear hi)
   refine hK.out _ _ ⟨(blk_cell BK576.out 0).trans rfl, (blk_cell BK576.out 1).trans rfl⟩ (fun hHeld => ?_)
   clear hK K
   refine norm_ (a' := ?_) ?_ ?_
   rotate_left
   ·show Act.put _ (some 5) _ = _
    simp only [Act.put, sI, s0_, s1_, i64_w, i32_w]
    rfl
   refine pure_ (i := 3) (N := some 6) (v := ?_) (a' := ?_) #[true, true, true, true, true, true, false, false, false] rfl rfl (any_of HT_.out (by kernel_rfl)) (fun _ _ _ h => h) (Or.inl ⟨by rfl, ?_⟩) ?_ ?_
   rotate_left
   ·intro w'
    go_simp
    with_reducible rfl
   rotate_left
   ·simp only [Act.put, sI, s0_, s1_, i64_w, i32_w]
    rfl
   refine one_ (i := 6) (N := some 9) #[true, true, true, true, true, true, true, false, false] rfl rfl (one_of HT_.out (by kernel_rfl)) (by decide) (fun K hK => ?_)
   refine goes_ Try.func89 (by kernel_rfl) rfl #[.slice A0_1 l0_1.length c0_1] (by rfl) rfl rfl (by (try simp only [mT, mC, mZ]); first | done | rfl) ?_
   with_reducible refine (impl_systemText.calls k _ _ l0_1 t578 _ ?side1 ?side2 A4.out).mono ?_
   (case side1 => repeat (first | exact (Kd.C_below HR0_1.out HB.out) | (with_reducible first | apply cA | apply cN | apply cD)))
   (case side2 => exact HC0_1.out)
   rintro e w9 ⟨rfl, hb⟩
   refine ⟨_, rfl, ?_⟩
   replace BK576 := am (blk_below (g := gb576) (o := .cells #[.slice A0_0 l0_0.length c0_0, .slice A0_1 l0_1.length c0_1] 26 (0, 0)) (by (with_reducible repeat (first | apply kB | apply kC | apply kE)); exact BK576.out) hb)
   replace HB := am (below_step (by repeat (with_reducible first | exact HB.out | apply bA | apply bN | apply bD | refine bS ?_ GE576.out)) hb)
   (try clear hb)
   (try clear hb2)
   (try clear hk)
   (try clear hi)
   refine hK.out _ _ ⟨(blk_cell BK576.out 0).trans rfl, (blk_cell BK576.out 1).trans rfl⟩ (fun hHeld => ?_)
   clear hK K
   refine norm_ (a' := ?_) ?_ ?_
   rotate_left
   ·show Act.put _ (some 9) _ = _
    simp only [Act.put, sI, s0_, s1_, i64_w, i32_w]
    rfl
   refine pure_ (i := 7) (N := some 10) (v := ?_) (a' := ?_) #[true, true, true, true, true, true, true, true, false] rfl rfl (any_of HT_.out (by kernel_rfl)) (fun _ _ _ h => h) (Or.inl ⟨by rfl, ?_⟩) ?_ ?_
   rotate_left
   ·intro w'
    go_simp
    with_reducible rfl
   rotate_left
   ·simp only [Act.put, sI, s0_, s1_, i64_w, i32_w]
    rfl
   refine pure_ (i := 8) (N := some 2) (v := ?_) (a' := ?_) #[true, true, true, true, true, true, true, true, true] rfl rfl (any_of HT_.out (by kernel_rfl)) (fun _ _ _ h => h) (Or.inl ⟨by rfl, ?_⟩) ?_ ?_
   rotate_left
   ·intro w'
    go_simp
    with_reducible rfl
   rotate_left
   ·simp only [Act.put, sI, s0_, s1_, i64_w, i32_w]
    rfl
   refine done_ (done_of HT_.out (by kernel_rfl)) ?_
   try go_wp2
   go_ret
   exact ⟨by first | rfl | (simp [*, errW_none, errW_some] <;> rfl), by repeat (with_reducible first | exact HB.out | apply bA | apply bN | apply bD | refine bS ?_ GE576.out)⟩
  ·rw [if_neg c5] at H
   exact absurd H (by simp)
 ·rw [if_neg c3] at H
  exact absurd H (by simp)
def impl_MeanderText.f (k : Nat) (l0_0 : List Int) (l0_1 : List Int) : Option (ByteArray × Bool) := (impl_IsPair.f k l0_0 l0_1).bind fun t580 => (if t580 = true then ((impl_meanderText.f k l0_0 l0_1).bind fun t581 => (some (t581, true))) else (some ((⟨#[]⟩ : ByteArray), false)))
theorem impl_MeanderText.calls (k : Nat) (A0_0 : Option Addr) (c0_0 : Nat) (l0_0 : List Int) (A0_1 : Option Addr) (c0_1 : Nat) (l0_1 : List Int) (r1 : ByteArray) (r2 : Bool) (w : World) (hr0_0 : Kd.C (Kd.int .i64) w A0_0 l0_0.length l0_0) (hc0_0 : l0_0.length ≤ c0_0) (hr0_1 : Kd.C (Kd.int .i64) w A0_1 l0_1.length l0_1) (hc0_1 : l0_1.length ≤ c0_1) (h : impl_MeanderText.f k l0_0 l0_1 = some (r1, r2)) :
 Calls Try.prog 36 #[.agg #[.slice A0_0 l0_0.length c0_0, .slice A0_1 l0_1.length c0_1]] w fun e w' => e = .returned (.tuple #[.string r1, .bool r2]) ∧ Below w.heap.size w w' := by
 have hu26 := Try.underlying26
 have HR0_0 := am hr0_0
 have HC0_0 := am hc0_0
 clear hr0_0 hc0_0
 have HR0_1 := am hr0_1
 have HC0_1 := am hc0_1
 clear hr0_1 hc0_1
 have HB := am (Below.refl w.heap.size w)
 have H : ((impl_IsPair.f k l0_0 l0_1).bind fun t580 => (if t580 = true then ((impl_meanderText.f k l0_0 l0_1).bind fun t581 => (some (t581, true))) else (some ((⟨#[]⟩ : ByteArray), false)))) = some (r1, r2) := h
 clear h
 replace H := Option.bind_eq_some_iff.mp H
 obtain ⟨t580, A20, H⟩ := H
 replace H : (if t580 = true then ((impl_meanderText.f k l0_0 l0_1).bind fun t581 => (some (t581, true))) else (some ((⟨#[]⟩ : ByteArray), false))) = some (r1, r2) := H
 have A2 := am A20
 clear A20
 by_cases c3 : t580 = true
 ·subst c3
  have H1 : ((impl_meanderText.f k l0_0 l0_1).bind fun t581 => (some (t581, true))) = some (r1, r2) := by rw [if_pos rfl] at H; exact H
  clear H
  have H := H1
  clear H1
  replace H := Option.bind_eq_some_iff.mp H
  obtain ⟨t581, A40, H⟩ := H
  replace H : (some (t581, true)) = some (r1, r2) := H
  have A4 := am A40
  clear A40
  simp only [Option.some.injEq, Prod.mk.injEq] at H
  obtain ⟨rfl, rfl⟩ := H
  go_enter Try.func36, Try.ntmps36
  go_wp2_with (first | ((with_reducible refine gate_dst (N := 1) rfl ?_); refine box_event ?hg (N := 1) ?hd (cs := #[.slice A0_0 l0_0.length c0_0, .slice A0_1 l0_1.length c0_1]) (t := 26) ?hr ?_; (case hd => rfl); (case hg => rfl); (case hr => first | (go_simp; done) | (go_simp; rfl)); intro gb579 hg w5 hbox hb; have BK579 := am (hbox); have GW579 := am ((by rw [hg]; exact (below_size (by repeat (with_reducible first | exact HB.out | apply bA | apply bN | apply bD))) : w.heap.size ≤ gb579)); have GE579 := am ((by rw [hg]; exact (below_size (by repeat (with_reducible first | exact HB.out | apply bA | apply bN | apply bD))) : w.heap.size ≤ gb579)); replace HB := am (below_step (by repeat (with_reducible first | exact HB.out | apply bA | apply bN | apply bD)) hb); clear hb hbox hg; have hcz6_0 : w5.cell? ⟨gb579, 0, none⟩ = some (.slice A0_0 l0_0.length c0_0) := (blk_cell BK579.out 0).trans rfl; have hcz6_1 : w5.cell? ⟨gb579, 1, none⟩ = some (.slice A0_1 l0_1.length c0_1) := (blk_cell BK579.out 1).trans rfl; have hfz6_0 := blk_frozen BK579.out 0; have hfz6_1 := blk_frozen BK579.out 1) | ((with_reducible refine gate_callee (f := 14) rfl ?_); refine goesL_ (some 5) rfl rfl Try.func14 (by kernel_rfl) rfl #[.agg #[.slice A0_0 l0_0.length c0_0, .slice A0_1 l0_1.length c0_1]] rfl (by (try simp only [mT, mC, mZ]); first | done | rfl) ?_; (with_reducible refine (impl_IsPair.calls k _ _ l0_0 _ _ l0_1 true _ ?side1 ?side2 ?side3 ?side4 A2.out).mono ?_); (case side1 => repeat (first | exact (Kd.C_below HR0_0.out HB.out) | (with_reducible first | apply cA | apply cN | apply cD))); (case side2 => exact HC0_0.out); (case side3 => repeat (first | exact (Kd.C_below HR0_1.out HB.out) | (with_reducible first | apply cA | apply cN | apply cD))); (case side4 => exact HC0_1.out); rintro e w7 ⟨rfl, hb⟩; refine ⟨_, rfl, ?_⟩; replace BK579 := am (blk_below (g := gb579) (o := .cells #[.slice A0_0 l0_0.length c0_0, .slice A0_1 l0_1.length c0_1] 26 (0, 0)) (by (with_reducible repeat (first | apply kB | apply kC | apply kE)); exact BK579.out) hb); replace HB := am (below_step (by repeat (with_reducible first | exact HB.out | apply bA | apply bN | apply bD | refine bS ?_ GE579.out)) hb); (try clear hb2); (try clear hb hk hi); have hcz8_0 : w7.cell? ⟨gb579, 0, none⟩ = some (.slice A0_0 l0_0.length c0_0) := (blk_cell BK579.out 0).trans rfl; have hcz8_1 : w7.cell? ⟨gb579, 1, none⟩ = some (.slice A0_1 l0_1.length c0_1) := (blk_cell BK579.out 1).trans rfl; have hfz8_0 := blk_frozen BK579.out 0; have hfz8_1 := blk_frozen BK579.out 1) | ((with_reducible refine gate_callee (f := 72) rfl ?_); refine goesL_ (some 8) rfl rfl Try.func72 (by kernel_rfl) rfl #[.agg #[.slice A0_0 l0_0.length c0_0, .slice A0_1 l0_1.length c0_1]] rfl (by (try simp only [mT, mC, mZ]); first | done | rfl) ?_; (with_reducible refine (impl_meanderText.calls k _ _ l0_0 _ _ l0_1 t581 _ ?side1 ?side2 ?side3 ?side4 A4.out).mono ?_); (case side1 => repeat (first | exact (Kd.C_below HR0_0.out HB.out) | (with_reducible first | apply cA | apply cN | apply cD))); (case side2 => exact HC0_0.out); (case side3 => repeat (first | exact (Kd.C_below HR0_1.out HB.out) | (with_reducible first | apply cA | apply cN | apply cD))); (case side4 => exact HC0_1.out); rintro e w9 ⟨rfl, hb⟩; refine ⟨_, rfl, ?_⟩; replace BK579 := am (blk_below (g := gb579) (o := .cells #[.slice A0_0 l0_0.length c0_0, .slice A0_1 l0_1.length c0_1] 26 (0, 0)) (by (with_reducible repeat (first | apply kB | apply kC | apply kE)); exact BK579.out) hb); replace HB := am (below_step (by repeat (with_reducible first | exact HB.out | apply bA | apply bN | apply bD | refine bS ?_ GE579.out)) hb); (try clear hb2); (try clear hb hk hi)))
  go_ret2
  exact ⟨by first | rfl | (simp [*, errW_none, errW_some] <;> rfl), by repeat (with_reducible first | exact HB.out | apply bA | apply bN | apply bD | refine bS ?_ GE579.out)⟩
 ·replace c3 := Bool.eq_false_iff.mpr c3
  subst c3
  have H1 : (some ((⟨#[]⟩ : ByteArray), false)) = some (r1, r2) := by rw [if_neg (show ¬ (false = true) by decide)] at H; exact H
  clear H
  have H := H1
  clear H1
  simp only [Option.some.injEq, Prod.mk.injEq] at H
  obtain ⟨rfl, rfl⟩ := H
  go_enter Try.func36, Try.ntmps36
  go_wp2_with (first | ((with_reducible refine gate_dst (N := 1) rfl ?_); refine box_event ?hg (N := 1) ?hd (cs := #[.slice A0_0 l0_0.length c0_0, .slice A0_1 l0_1.length c0_1]) (t := 26) ?hr ?_; (case hd => rfl); (case hg => rfl); (case hr => first | (go_simp; done) | (go_simp; rfl)); intro gb579 hg w10 hbox hb; have BK579 := am (hbox); have GW579 := am ((by rw [hg]; exact (below_size (by repeat (with_reducible first | exact HB.out | apply bA | apply bN | apply bD))) : w.heap.size ≤ gb579)); have GE579 := am ((by rw [hg]; exact (below_size (by repeat (with_reducible first | exact HB.out | apply bA | apply bN | apply bD))) : w.heap.size ≤ gb579)); replace HB := am (below_step (by repeat (with_reducible first | exact HB.out | apply bA | apply bN | apply bD)) hb); clear hb hbox hg; have hcz11_0 : w10.cell? ⟨gb579, 0, none⟩ = some (.slice A0_0 l0_0.length c0_0) := (blk_cell BK579.out 0).trans rfl; have hcz11_1 : w10.cell? ⟨gb579, 1, none⟩ = some (.slice A0_1 l0_1.length c0_1) := (blk_cell BK579.out 1).trans rfl; have hfz11_0 := blk_frozen BK579.out 0; have hfz11_1 := blk_frozen BK579.out 1) | ((with_reducible refine gate_callee (f := 14) rfl ?_); refine goesL_ (some 5) rfl rfl Try.func14 (by kernel_rfl) rfl #[.agg #[.slice A0_0 l0_0.length c0_0, .slice A0_1 l0_1.length c0_1]] rfl (by (try simp only [mT, mC, mZ]); first | done | rfl) ?_; (with_reducible refine (impl_IsPair.calls k _ _ l0_0 _ _ l0_1 false _ ?side1 ?side2 ?side3 ?side4 A2.out).mono ?_); (case side1 => repeat (first | exact (Kd.C_below HR0_0.out HB.out) | (with_reducible first | apply cA | apply cN | apply cD))); (case side2 => exact HC0_0.out); (case side3 => repeat (first | exact (Kd.C_below HR0_1.out HB.out) | (with_reducible first | apply cA | apply cN | apply cD))); (case side4 => exact HC0_1.out); rintro e w12 ⟨rfl, hb⟩; refine ⟨_, rfl, ?_⟩; replace BK579 := am (blk_below (g := gb579) (o := .cells #[.slice A0_0 l0_0.length c0_0, .slice A0_1 l0_1.length c0_1] 26 (0, 0)) (by (with_reducible repeat (first | apply kB | apply kC | apply kE)); exact BK579.out) hb); replace HB := am (below_step (by repeat (with_reducible first | exact HB.out | apply bA | apply bN | apply bD | refine bS ?_ GE579.out)) hb); (try clear hb2); (try clear hb hk hi)))
  go_ret2
  exact ⟨by first | rfl | (simp [*, errW_none, errW_some] <;> rfl), by repeat (with_reducible first | exact HB.out | apply bA | apply bN | apply bD | refine bS ?_ GE579.out)⟩
def spec_DrawIsPair_m.f (k : Nat) (s0_0 : List Int) (s0_1 : Int) (s0_2 : Int) : Option (List Int × List Int × Int × Int) := (spec_l1Cur_pair.f k s0_0 s0_1 s0_2 6).bind fun bt583 => (some (bt583.1, bt583.2.1, bt583.2.2.1, bt583.2.2.2))
def spec_DrawIsPair.f (k : Nat) (l0 : List Int) : Option (List Int × List Int) := (spec_DrawIsPair_m.f k l0 0 0).bind fun t => some (t.1, t.2.1)
theorem spec_DrawIsPair.calls (k : Nat) (A0 : Option Addr) (c0 : Nat) (s0_0 : List Int) (z_r1 : List Int) (z_r2 : List Int) (w : World) (hr0 : Kd.C (Kd.int .u8) w A0 s0_0.length s0_0) (hc0 : s0_0.length ≤ c0) (h : spec_DrawIsPair.f k s0_0 = some (z_r1, z_r2)) :
 Calls Try.prog 39 #[.slice A0 s0_0.length c0] w fun e w' => ∃ v0_ v1_ : Value, e = .returned (.agg #[v0_, v1_]) ∧ Kd.R (Kd.int .i64) 3 w' w.heap.size (fun k_ => some k_ ≠ (v1_ : Value).ownBlock) v0_ z_r1 ∧ Kd.R (Kd.int .i64) 3 w' w.heap.size (fun k_ => some k_ ≠ (v0_ : Value).ownBlock) v1_ z_r2 ∧ Below w.heap.size w w' := by
 unfold spec_DrawIsPair.f at h
 obtain ⟨⟨r1, r2, r3, r4⟩, hm_, hx⟩ := Option.bind_eq_some_iff.mp h
 clear h
 simp only [Option.some.injEq, Prod.mk.injEq] at hx
 obtain ⟨rfl, rfl⟩ := hx
 have h := hm_
 clear hm_
 go_enter Try.func39, Try.ntmps39
 go_upto_region 1 with (first | ((with_reducible refine gate_dst (N := 2) rfl ?_); refine box_event ?hg (N := 2) ?hd (cs := #[.slice none 0 0, .slice none 0 0]) (t := 26) ?hr ?_; (case hd => rfl); (case hg => rfl); (case hr => first | (go_simp; done) | (go_simp; rfl)); intro gb582 hg w3_ hbox hb; have HGE_ := am (show w.heap.size ≤ gb582 from by rw [hg]; exact Nat.le_refl _); have HBO_ := am hbox; have HBE_ := am hb; clear hbox hb hg))
 go_upto_region 2 with (fail)
 have hb := HBE_.out
 have hbox := HBO_.out
 clear HBE_ HBO_
 have HBX : Below w.heap.size w (w3_.alloc (.cells #[.slice A0 s0_0.length c0, .int .i64 0, .int .u64 0] 64)) := below_alloc hb _
 have HIX : IsS64 w (w3_.alloc (.cells #[.slice A0 s0_0.length c0, .int .i64 0, .int .u64 0] 64)) w3_.heap.size s0_0 0 0 := ⟨A0, c0, (by first | (simp [World.alloc]; done) | exact Array.getElem?_push_size), hb.size, hr0⟩
 have HBK := kE hbox (.cells #[.slice A0 s0_0.length c0, .int .i64 0, .int .u64 0] 64 (0, 0))
 have HNB : w3_.heap.size ≠ gb582 := Nat.ne_of_gt (Array.getElem?_eq_some_iff.1 hbox).1
 generalize (w3_.alloc (.cells #[.slice A0 s0_0.length c0, .int .i64 0, .int .u64 0] 64)) = wb at HBX HIX HBK ⊢
 generalize w3_.heap.size = gs at HIX HNB ⊢
 have HI0 := am HIX
 have HK := am (KeepBut.refl wb gs none)
 have HL := am HBX.size
 have HW0 := am HBX.size
 have HBXS : Aside0 (w.heap.size ≤ wb.heap.size) := ⟨HBX.size⟩
 have HB := am HBX
 have BK582 := am HBK
 have GE582 := HGE_
 have NB0_582 := am HNB
 have NB582_0 := am (Ne.symm HNB)
 clear HBX HIX HBK HGE_ HNB hbox hb
 have H : ((spec_l1Cur_pair.f k s0_0 0 0 6).bind fun bt583 => (some (bt583.1, bt583.2.1, bt583.2.2.1, bt583.2.2.2))) = some (r1, r2, r3, r4) := h
 clear h
 replace H := Option.bind_eq_some_iff.mp H
 obtain ⟨⟨t583, t586, t589, t590⟩, A20, H⟩ := H
 replace H : (some (t583, t586, t589, t590)) = some (r1, r2, r3, r4) := H
 have A2 := am A20
 clear A20
 simp only [Option.some.injEq, Prod.mk.injEq] at H
 obtain ⟨rfl, rfl, rfl, rfl⟩ := H
 go_wp2_with (first | ((with_reducible refine gate_dst (N := 2) rfl ?_); refine box_event ?hg (N := 2) ?hd (cs := #[.slice none 0 0, .slice none 0 0]) (t := 26) ?hr ?_; (case hd => rfl); (case hg => rfl); (case hr => first | (go_simp; done) | (go_simp; rfl)); intro gb582 hg w3 hbox hb; replace HB := am (below_step (by repeat (with_reducible first | exact HB.out | apply bA | apply bN | apply bD | refine bS ?_ (iG HI0.out))) hb); have BK582 := am (hbox); have GW582 := am ((by rw [hg]; exact (keep_size (w := wb) (g := gs) (row := none) (by repeat (first | exact HK.out | apply kS | apply kN | apply kD | apply kA))) : wb.heap.size ≤ gb582)); have GE582 := am ((Nat.le_trans HW0.out (by rw [hg]; exact (keep_size (w := wb) (g := gs) (row := none) (by repeat (first | exact HK.out | apply kS | apply kN | apply kD | apply kA))) : wb.heap.size ≤ gb582) : w.heap.size ≤ gb582)); replace HK := am (KeepBut.trans (by repeat (first | exact HK.out | apply kS | apply kN | apply kD | apply kA)) (KeepBut.of_below hb gs none) (.inl rfl)); have NB0_582 := am ((by rw [hg]; exact Nat.ne_of_lt (IsS64.lt (show IsS64 w _ gs s0_0 0 0 from by repeat (first | exact HI0.out | apply iA | apply iN | apply iD | apply i1 | apply i2))) : gs ≠ gb582)); have NB582_0 := am ((by rw [hg]; exact Nat.ne_of_gt (IsS64.lt (show IsS64 w _ gs s0_0 0 0 from by repeat (first | exact HI0.out | apply iA | apply iN | apply iD | apply i1 | apply i2))) : gb582 ≠ gs)); replace HI0 := am (IsS64.below (by repeat (first | exact HI0.out | apply iA | apply iN | apply iD | apply i1 | apply i2)) hb); clear hb hbox hg) | ((with_reducible refine gate_callee (f := 45) rfl ?_); refine goesL_ (some 8) rfl rfl Try.func45 (by kernel_rfl) rfl #[.pointer (some ⟨gs, 0, none⟩), .int .i64 6] rfl (by (try simp only [mT, mC, mZ]); first | done | rfl) ?_; (with_reducible refine (spec_l1Cur_pair.calls k gs s0_0 0 0 6 t583 t586 t589 t590 w _ ?side1 ?side2 A2.out).mono ?_); (case side1 => repeat (first | exact HI0.out | apply iA | apply iN | apply iD | apply i1 | apply i2 | refine IsS64.far ?_ NB0_582.out _)); (case side2 => repeat (with_reducible first | exact HB.out | apply bA | apply bN | apply bD | refine bS ?_ (iG HI0.out) | refine bS ?_ GE582.out)); rintro e w4 ⟨v584, v587, rfl, ho0, ho1, hi, hb, hk⟩; refine ⟨_, rfl, ?_⟩; replace BK582 := am (KeepBut.blk hk (g' := gb582) (o := .cells #[.slice none 0 0, .slice none 0 0] 26 (0, 0)) (by (with_reducible repeat (first | apply kB | apply kC | apply kE)); exact BK582.out) NB582_0.out (by simp)); have HO585 := am (Kd.R_lower ho0 (keep_size (w := wb) (g := gs) (row := none) (by repeat (first | exact HK.out | apply kS | apply kN | apply kD | apply kA | refine keep_far ?_ GW582.out _)))); have HO588 := am (Kd.R_lower ho1 (keep_size (w := wb) (g := gs) (row := none) (by repeat (first | exact HK.out | apply kS | apply kN | apply kD | apply kA | refine keep_far ?_ GW582.out _)))); replace HK := am (KeepBut.trans (by repeat (first | exact HK.out | apply kS | apply kN | apply kD | apply kA | refine keep_far ?_ GW582.out _)) hk (.inl rfl)); replace HB := am (hb); replace HI0 := am (hi); (try clear hb2); (try clear hb hk hi); (try clear ho0); (try clear ho1); obtain ⟨Ao5, co5, eo5⟩ := Kd.R_slice HO585.out; subst eo5; have hnb6 := NB582_0.out; have hnc6 := NB0_582.out; have hcz7_0 : w4.cell? ⟨gb582, 0, none⟩ = some (.slice none 0 0) := (blk_cell BK582.out 0).trans rfl; have hcz7_1 : w4.cell? ⟨gb582, 1, none⟩ = some (.slice none 0 0) := (blk_cell BK582.out 1).trans rfl; have hfz7_0 := blk_frozen BK582.out 0; have hfz7_1 := blk_frozen BK582.out 1; obtain ⟨Ao8, co8, eo8⟩ := Kd.R_slice HO588.out; subst eo8))
 refine bodyPost_ret (results_cell_row rfl _ _ gb582 26 #[.slice Ao5 t583.length co5, .slice Ao8 t586.length co8] (0, 0) _ rfl (by (with_reducible repeat (first | apply kB | apply kC | apply kE)); refine blk_put (cs := #[.slice Ao5 t583.length co5, .slice none 0 0]) ?_ 1 _ rfl; (with_reducible repeat (first | apply kB | apply kC | apply kE)); refine blk_put (cs := #[.slice none 0 0, .slice none 0 0]) ?_ 0 _ rfl; (with_reducible repeat (first | apply kB | apply kC | apply kE)); exact BK582.out) Try.underlying26 rfl (by kernel_rfl)) rfl ?_
 exact ⟨_, _, by first | rfl | (simp [*, errW_none, errW_some] <;> rfl), Kd.R_lower (by (with_reducible repeat (first | apply rA | apply rN | apply rD)); exact Kd.R_mono (Kd.R_far (p := ⟨gb582, 1, none⟩) (Kd.R_far (p := ⟨gb582, 0, none⟩) (Kd.R_types HO585.out BK582.out (by decide)) (fun _ hk => hk.2) (.slice Ao5 t583.length co5)) (fun _ hk => hk.2) (.slice Ao8 t586.length co8)) (fun _ hk => hk.1)) HBXS.out, Kd.R_lower (by (with_reducible repeat (first | apply rA | apply rN | apply rD)); exact Kd.R_mono (Kd.R_far (p := ⟨gb582, 1, none⟩) (Kd.R_far (p := ⟨gb582, 0, none⟩) (Kd.R_types HO588.out BK582.out (by decide)) (fun _ hk => hk.2) (.slice Ao5 t583.length co5)) (fun _ hk => hk.2) (.slice Ao8 t586.length co8)) (fun _ hk => hk.1)) HBXS.out, by repeat (with_reducible first | exact HB.out | apply bA | apply bN | apply bD | refine bS ?_ (iG HI0.out) | refine bS ?_ GE582.out)⟩
def spec_DrawMeanderText.f (k : Nat) (l0 : List Int) : Option (List Int × List Int) := (spec_DrawIsPair.f k l0).bind fun bt592 => (some (bt592.1, bt592.2))
theorem spec_DrawMeanderText.calls (k : Nat) (A0 : Option Addr) (c0 : Nat) (l0 : List Int) (r1 : List Int) (r2 : List Int) (w : World) (hr0 : Kd.C (Kd.int .u8) w A0 l0.length l0) (hc0 : l0.length ≤ c0) (h : spec_DrawMeanderText.f k l0 = some (r1, r2)) :
 Calls Try.prog 37 #[.slice A0 l0.length c0] w fun e w' => ∃ v0_ v1_ : Value, e = .returned (.agg #[v0_, v1_]) ∧ Kd.R (Kd.int .i64) 3 w' w.heap.size (fun k_ => some k_ ≠ (v1_ : Value).ownBlock) v0_ r1 ∧ Kd.R (Kd.int .i64) 3 w' w.heap.size (fun k_ => some k_ ≠ (v0_ : Value).ownBlock) v1_ r2 ∧ Below w.heap.size w w' := by
 have hu26 := Try.underlying26
 have HR0 := am hr0
 have HC0 := am hc0
 clear hr0 hc0
 have HB := am (Below.refl w.heap.size w)
 have H : ((spec_DrawIsPair.f k l0).bind fun bt592 => (some (bt592.1, bt592.2))) = some (r1, r2) := h
 clear h
 replace H := Option.bind_eq_some_iff.mp H
 obtain ⟨⟨t592, t595⟩, A20, H⟩ := H
 replace H : (some (t592, t595)) = some (r1, r2) := H
 have A2 := am A20
 clear A20
 simp only [Option.some.injEq, Prod.mk.injEq] at H
 obtain ⟨rfl, rfl⟩ := H
 go_enter Try.func37, Try.ntmps37
 go_wp2_with (first | ((with_reducible refine gate_dst (N := 2) rfl ?_); refine box_event ?hg (N := 2) ?hd (cs := #[.slice none 0 0, .slice none 0 0]) (t := 26) ?hr ?_; (case hd => rfl); (case hg => rfl); (case hr => first | (go_simp; done) | (go_simp; rfl)); intro gb591 hg w3 hbox hb; have BK591 := am (hbox); have GW591 := am ((by rw [hg]; exact (below_size (by repeat (with_reducible first | exact HB.out | apply bA | apply bN | apply bD))) : w.heap.size ≤ gb591)); have GE591 := am ((by rw [hg]; exact (below_size (by repeat (with_reducible first | exact HB.out | apply bA | apply bN | apply bD))) : w.heap.size ≤ gb591)); replace HB := am (below_step (by repeat (with_reducible first | exact HB.out | apply bA | apply bN | apply bD)) hb); clear hb hbox hg) | ((with_reducible refine gate_callee (f := 39) rfl ?_); refine goesL_ (some 4) rfl rfl Try.func39 (by kernel_rfl) rfl #[.slice A0 l0.length c0] rfl (by (try simp only [mT, mC, mZ]); first | done | rfl) ?_; (with_reducible refine (spec_DrawIsPair.calls k _ _ l0 t592 t595 _ ?side1 ?side2 A2.out).mono ?_); (case side1 => repeat (first | exact (Kd.C_below HR0.out HB.out) | (with_reducible first | apply cA | apply cN | apply cD))); (case side2 => exact HC0.out); rintro e w4 ⟨v593, v596, rfl, ho0, ho1, hb⟩; refine ⟨_, rfl, ?_⟩; have HO594 := am (Kd.R_lower ho0 (below_size (by repeat (with_reducible first | exact HB.out | apply bA | apply bN | apply bD | refine bS ?_ GE591.out)))); have HO597 := am (Kd.R_lower ho1 (below_size (by repeat (with_reducible first | exact HB.out | apply bA | apply bN | apply bD | refine bS ?_ GE591.out)))); replace BK591 := am (blk_below (g := gb591) (o := .cells #[.slice none 0 0, .slice none 0 0] 26 (0, 0)) (by (with_reducible repeat (first | apply kB | apply kC | apply kE)); exact BK591.out) hb); replace HB := am (below_step (by repeat (with_reducible first | exact HB.out | apply bA | apply bN | apply bD | refine bS ?_ GE591.out)) hb); (try clear hb2); (try clear hb hk hi); (try clear ho0); (try clear ho1); obtain ⟨Ao5, co5, eo5⟩ := Kd.R_slice HO594.out; subst eo5; have hcz6_0 : w4.cell? ⟨gb591, 0, none⟩ = some (.slice none 0 0) := (blk_cell BK591.out 0).trans rfl; have hcz6_1 : w4.cell? ⟨gb591, 1, none⟩ = some (.slice none 0 0) := (blk_cell BK591.out 1).trans rfl; have hfz6_0 := blk_frozen BK591.out 0; have hfz6_1 := blk_frozen BK591.out 1; obtain ⟨Ao7, co7, eo7⟩ := Kd.R_slice HO597.out; subst eo7))
 refine bodyPost_ret (results_cell_row rfl _ _ gb591 26 #[.slice Ao5 t592.length co5, .slice Ao7 t595.length co7] (0, 0) _ rfl (by (with_reducible repeat (first | apply kB | apply kC | apply kE)); refine blk_put (cs := #[.slice Ao5 t592.length co5, .slice none 0 0]) ?_ 1 _ rfl; (with_reducible repeat (first | apply kB | apply kC | apply kE)); refine blk_put (cs := #[.slice none 0 0, .slice none 0 0]) ?_ 0 _ rfl; (with_reducible repeat (first | apply kB | apply kC | apply kE)); exact BK591.out) Try.underlying26 rfl (by kernel_rfl)) rfl ?_
 exact ⟨_, _, by first | rfl | (simp [*, errW_none, errW_some] <;> rfl), by (with_reducible repeat (first | apply rA | apply rN | apply rD)); exact Kd.R_mono (Kd.R_far (p := ⟨gb591, 1, none⟩) (Kd.R_far (p := ⟨gb591, 0, none⟩) (Kd.R_types HO594.out BK591.out (by decide)) (fun _ hk => hk.2) (.slice Ao5 t592.length co5)) (fun _ hk => hk.2) (.slice Ao7 t595.length co7)) (fun _ hk => hk.1), by (with_reducible repeat (first | apply rA | apply rN | apply rD)); exact Kd.R_mono (Kd.R_far (p := ⟨gb591, 1, none⟩) (Kd.R_far (p := ⟨gb591, 0, none⟩) (Kd.R_types HO597.out BK591.out (by decide)) (fun _ hk => hk.2) (.slice Ao5 t592.length co5)) (fun _ hk => hk.2) (.slice Ao7 t595.length co7)) (fun _ hk => hk.1), by repeat (with_reducible first | exact HB.out | apply bA | apply bN | apply bD | refine bS ?_ GE591.out)⟩
def spec_MeanderText.f (k : Nat) (l0_0 : List Int) (l0_1 : List Int) : Option (ByteArray × Bool) := (spec_mePair.f k l0_0 l0_1).bind fun t599 => (if t599 = true then ((spec_meText.f k l0_0 l0_1).bind fun t600 => (some (t600, true))) else (some ((⟨#[]⟩ : ByteArray), false)))
theorem spec_MeanderText.calls (k : Nat) (A0_0 : Option Addr) (c0_0 : Nat) (l0_0 : List Int) (A0_1 : Option Addr) (c0_1 : Nat) (l0_1 : List Int) (r1 : ByteArray) (r2 : Bool) (w : World) (hr0_0 : Kd.C (Kd.int .i64) w A0_0 l0_0.length l0_0) (hc0_0 : l0_0.length ≤ c0_0) (hr0_1 : Kd.C (Kd.int .i64) w A0_1 l0_1.length l0_1) (hc0_1 : l0_1.length ≤ c0_1) (h : spec_MeanderText.f k l0_0 l0_1 = some (r1, r2)) :
 Calls Try.prog 38 #[.agg #[.slice A0_0 l0_0.length c0_0, .slice A0_1 l0_1.length c0_1]] w fun e w' => e = .returned (.tuple #[.string r1, .bool r2]) ∧ Below w.heap.size w w' := by
 have hu26 := Try.underlying26
 have HR0_0 := am hr0_0
 have HC0_0 := am hc0_0
 clear hr0_0 hc0_0
 have HR0_1 := am hr0_1
 have HC0_1 := am hc0_1
 clear hr0_1 hc0_1
 have HB := am (Below.refl w.heap.size w)
 have H : ((spec_mePair.f k l0_0 l0_1).bind fun t599 => (if t599 = true then ((spec_meText.f k l0_0 l0_1).bind fun t600 => (some (t600, true))) else (some ((⟨#[]⟩ : ByteArray), false)))) = some (r1, r2) := h
 clear h
 replace H := Option.bind_eq_some_iff.mp H
 obtain ⟨t599, A20, H⟩ := H
 replace H : (if t599 = true then ((spec_meText.f k l0_0 l0_1).bind fun t600 => (some (t600, true))) else (some ((⟨#[]⟩ : ByteArray), false))) = some (r1, r2) := H
 have A2 := am A20
 clear A20
 by_cases c3 : t599 = true
 ·subst c3
  have H1 : ((spec_meText.f k l0_0 l0_1).bind fun t600 => (some (t600, true))) = some (r1, r2) := by rw [if_pos rfl] at H; exact H
  clear H
  have H := H1
  clear H1
  replace H := Option.bind_eq_some_iff.mp H
  obtain ⟨t600, A40, H⟩ := H
  replace H : (some (t600, true)) = some (r1, r2) := H
  have A4 := am A40
  clear A40
  simp only [Option.some.injEq, Prod.mk.injEq] at H
  obtain ⟨rfl, rfl⟩ := H
  go_enter Try.func38, Try.ntmps38
  go_wp2_with (first | ((with_reducible refine gate_dst (N := 1) rfl ?_); refine box_event ?hg (N := 1) ?hd (cs := #[.slice A0_0 l0_0.length c0_0, .slice A0_1 l0_1.length c0_1]) (t := 26) ?hr ?_; (case hd => rfl); (case hg => rfl); (case hr => first | (go_simp; done) | (go_simp; rfl)); intro gb598 hg w5 hbox hb; have BK598 := am (hbox); have GW598 := am ((by rw [hg]; exact (below_size (by repeat (with_reducible first | exact HB.out | apply bA | apply bN | apply bD))) : w.heap.size ≤ gb598)); have GE598 := am ((by rw [hg]; exact (below_size (by repeat (with_reducible first | exact HB.out | apply bA | apply bN | apply bD))) : w.heap.size ≤ gb598)); replace HB := am (below_step (by repeat (with_reducible first | exact HB.out | apply bA | apply bN | apply bD)) hb); clear hb hbox hg; have hcz6_0 : w5.cell? ⟨gb598, 0, none⟩ = some (.slice A0_0 l0_0.length c0_0) := (blk_cell BK598.out 0).trans rfl; have hcz6_1 : w5.cell? ⟨gb598, 1, none⟩ = some (.slice A0_1 l0_1.length c0_1) := (blk_cell BK598.out 1).trans rfl; have hfz6_0 := blk_frozen BK598.out 0; have hfz6_1 := blk_frozen BK598.out 1) | ((with_reducible refine gate_callee (f := 41) rfl ?_); refine goesL_ (some 5) rfl rfl Try.func41 (by kernel_rfl) rfl #[.agg #[.slice A0_0 l0_0.length c0_0, .slice A0_1 l0_1.length c0_1]] rfl (by (try simp only [mT, mC, mZ]); first | done | rfl) ?_; (with_reducible refine (spec_mePair.calls k _ _ l0_0 _ _ l0_1 true _ ?side1 ?side2 ?side3 ?side4 A2.out).mono ?_); (case side1 => repeat (first | exact (Kd.C_below HR0_0.out HB.out) | (with_reducible first | apply cA | apply cN | apply cD))); (case side2 => exact HC0_0.out); (case side3 => repeat (first | exact (Kd.C_below HR0_1.out HB.out) | (with_reducible first | apply cA | apply cN | apply cD))); (case side4 => exact HC0_1.out); rintro e w7 ⟨rfl, hb⟩; refine ⟨_, rfl, ?_⟩; replace BK598 := am (blk_below (g := gb598) (o := .cells #[.slice A0_0 l0_0.length c0_0, .slice A0_1 l0_1.length c0_1] 26 (0, 0)) (by (with_reducible repeat (first | apply kB | apply kC | apply kE)); exact BK598.out) hb); replace HB := am (below_step (by repeat (with_reducible first | exact HB.out | apply bA | apply bN | apply bD | refine bS ?_ GE598.out)) hb); (try clear hb2); (try clear hb hk hi); have hcz8_0 : w7.cell? ⟨gb598, 0, none⟩ = some (.slice A0_0 l0_0.length c0_0) := (blk_cell BK598.out 0).trans rfl; have hcz8_1 : w7.cell? ⟨gb598, 1, none⟩ = some (.slice A0_1 l0_1.length c0_1) := (blk_cell BK598.out 1).trans rfl; have hfz8_0 := blk_frozen BK598.out 0; have hfz8_1 := blk_frozen BK598.out 1) | ((with_reducible refine gate_callee (f := 66) rfl ?_); refine goesL_ (some 8) rfl rfl Try.func66 (by kernel_rfl) rfl #[.agg #[.slice A0_0 l0_0.length c0_0, .slice A0_1 l0_1.length c0_1]] rfl (by (try simp only [mT, mC, mZ]); first | done | rfl) ?_; (with_reducible refine (spec_meText.calls k _ _ l0_0 _ _ l0_1 t600 _ ?side1 ?side2 ?side3 ?side4 A4.out).mono ?_); (case side1 => repeat (first | exact (Kd.C_below HR0_0.out HB.out) | (with_reducible first | apply cA | apply cN | apply cD))); (case side2 => exact HC0_0.out); (case side3 => repeat (first | exact (Kd.C_below HR0_1.out HB.out) | (with_reducible first | apply cA | apply cN | apply cD))); (case side4 => exact HC0_1.out); rintro e w9 ⟨rfl, hb⟩; refine ⟨_, rfl, ?_⟩; replace BK598 := am (blk_below (g := gb598) (o := .cells #[.slice A0_0 l0_0.length c0_0, .slice A0_1 l0_1.length c0_1] 26 (0, 0)) (by (with_reducible repeat (first | apply kB | apply kC | apply kE)); exact BK598.out) hb); replace HB := am (below_step (by repeat (with_reducible first | exact HB.out | apply bA | apply bN | apply bD | refine bS ?_ GE598.out)) hb); (try clear hb2); (try clear hb hk hi)))
  go_ret2
  exact ⟨by first | rfl | (simp [*, errW_none, errW_some] <;> rfl), by repeat (with_reducible first | exact HB.out | apply bA | apply bN | apply bD | refine bS ?_ GE598.out)⟩
 ·replace c3 := Bool.eq_false_iff.mpr c3
  subst c3
  have H1 : (some ((⟨#[]⟩ : ByteArray), false)) = some (r1, r2) := by rw [if_neg (show ¬ (false = true) by decide)] at H; exact H
  clear H
  have H := H1
  clear H1
  simp only [Option.some.injEq, Prod.mk.injEq] at H
  obtain ⟨rfl, rfl⟩ := H
  go_enter Try.func38, Try.ntmps38
  go_wp2_with (first | ((with_reducible refine gate_dst (N := 1) rfl ?_); refine box_event ?hg (N := 1) ?hd (cs := #[.slice A0_0 l0_0.length c0_0, .slice A0_1 l0_1.length c0_1]) (t := 26) ?hr ?_; (case hd => rfl); (case hg => rfl); (case hr => first | (go_simp; done) | (go_simp; rfl)); intro gb598 hg w10 hbox hb; have BK598 := am (hbox); have GW598 := am ((by rw [hg]; exact (below_size (by repeat (with_reducible first | exact HB.out | apply bA | apply bN | apply bD))) : w.heap.size ≤ gb598)); have GE598 := am ((by rw [hg]; exact (below_size (by repeat (with_reducible first | exact HB.out | apply bA | apply bN | apply bD))) : w.heap.size ≤ gb598)); replace HB := am (below_step (by repeat (with_reducible first | exact HB.out | apply bA | apply bN | apply bD)) hb); clear hb hbox hg; have hcz11_0 : w10.cell? ⟨gb598, 0, none⟩ = some (.slice A0_0 l0_0.length c0_0) := (blk_cell BK598.out 0).trans rfl; have hcz11_1 : w10.cell? ⟨gb598, 1, none⟩ = some (.slice A0_1 l0_1.length c0_1) := (blk_cell BK598.out 1).trans rfl; have hfz11_0 := blk_frozen BK598.out 0; have hfz11_1 := blk_frozen BK598.out 1) | ((with_reducible refine gate_callee (f := 41) rfl ?_); refine goesL_ (some 5) rfl rfl Try.func41 (by kernel_rfl) rfl #[.agg #[.slice A0_0 l0_0.length c0_0, .slice A0_1 l0_1.length c0_1]] rfl (by (try simp only [mT, mC, mZ]); first | done | rfl) ?_; (with_reducible refine (spec_mePair.calls k _ _ l0_0 _ _ l0_1 false _ ?side1 ?side2 ?side3 ?side4 A2.out).mono ?_); (case side1 => repeat (first | exact (Kd.C_below HR0_0.out HB.out) | (with_reducible first | apply cA | apply cN | apply cD))); (case side2 => exact HC0_0.out); (case side3 => repeat (first | exact (Kd.C_below HR0_1.out HB.out) | (with_reducible first | apply cA | apply cN | apply cD))); (case side4 => exact HC0_1.out); rintro e w12 ⟨rfl, hb⟩; refine ⟨_, rfl, ?_⟩; replace BK598 := am (blk_below (g := gb598) (o := .cells #[.slice A0_0 l0_0.length c0_0, .slice A0_1 l0_1.length c0_1] 26 (0, 0)) (by (with_reducible repeat (first | apply kB | apply kC | apply kE)); exact BK598.out) hb); replace HB := am (below_step (by repeat (with_reducible first | exact HB.out | apply bA | apply bN | apply bD | refine bS ?_ GE598.out)) hb); (try clear hb2); (try clear hb hk hi)))
  go_ret2
  exact ⟨by first | rfl | (simp [*, errW_none, errW_some] <;> rfl), by repeat (with_reducible first | exact HB.out | apply bA | apply bN | apply bD | refine bS ?_ GE598.out)⟩
end Go.Proofs.Ytfencncopkeobaa.QFnPairsMoved
