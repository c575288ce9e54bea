-- Written by wip/myprint.py (a program of mine round the kit's printer). Lean checks it.
import Derived.Test.YtpbadjdeghmenaaQFnSystemsListedx0
import Derived.Test.YtpbadjdeghmenaaQFnSystemsListedx1
import Derived.Test.YtpbadjdeghmenaaQFnSystemsListedx6
namespace Go.Proofs.Ytpbadjdeghmenaa.QFnSystemsListed
open Go.RowKit Go.Proofs.YtpbadjdeghmenaaW.PrintWords Go.Proofs.YtpbadjdeghmenaaW.PrintLast Go.Proofs.YtpbadjdeghmenaaW.PrintMore
attribute [local go_sem] max2_int min2_int max_two min_two max_three min_three max_four min_four   -- for this text's walks alone
set_option linter.unusedVariables false
set_option linter.unusedSimpArgs false

set_option maxHeartbeats 8000000
set_option maxRecDepth 100000
/-! ### spec_l1Cur_spoilt: function 39 -/
mutual
def spec_l1Cur_spoilt.l0 : Nat → ByteArray → ByteArray → Int → List Int → Int → Int → Option (ByteArray × Int × Int)
 | 0, _, _, _, _, _, _ => none
 | k + 1, x1, x2, x7, x1000, x1001, x1002 => if x7 > 0 then (spec_l1Cur_spoilt.j1 k x1 x2 x7 (decide ((x1.size : Int) > 0)) x1000 x1001 x1002) else (spec_l1Cur_spoilt.j1 k x1 x2 x7 false x1000 x1001 x1002)
def spec_l1Cur_spoilt.j1 : Nat → ByteArray → ByteArray → Int → Bool → List Int → Int → Int → Option (ByteArray × Int × Int)
 | 0, _, _, _, _, _, _, _ => none
 | k + 1, x1, x2, x7, x19, x1000, x1001, x1002 => if x19 = true then ((spec_l1Cur_pick.f x1000 x1001 x1002 (x1.size : Int)).bind fun bt321 => ((spec_l1Cur_pick.f x1000 bt321.2.1 bt321.2.2 (x2.size : Int)).bind fun bt324 => (if 0 ≤ bt324.1 then (if bt324.1 < (x2.size : Int) then ((some (([bt x2 bt324.1] : List Int) : List Int)).bind fun y327 => ((spec_l1Cur_pick.f x1000 bt324.2.1 bt324.2.2 3).bind fun bt330 => (if bt330.1 = 0 then (if 0 ≤ bt321.1 then (if bt321.1 ≤ (x1.size : Int) then (if (x1.extract 0 (bt321.1 : Int).toNat).size + (strOfNums y327).size ≤ 9223372036854775807 then (if ((x1.extract 0 (bt321.1 : Int).toNat) ++ (strOfNums y327)).size + (x1.extract (bt321.1 : Int).toNat x1.size).size ≤ 9223372036854775807 then (spec_l1Cur_spoilt.l0 k (((x1.extract 0 (bt321.1 : Int).toNat) ++ (strOfNums y327)) ++ (x1.extract (bt321.1 : Int).toNat x1.size)) x2 (wrap64 (x7 - 1)) x1000 bt330.2.1 bt330.2.2) else (none)) else (none)) else (none)) else (none)) else (if bt330.1 = 1 then (if 0 ≤ bt321.1 then (if bt321.1 ≤ (x1.size : Int) then (if (x1.extract 0 (bt321.1 : Int).toNat).size + (strOfNums y327).size ≤ 9223372036854775807 then (if 0 ≤ (wrap64 (bt321.1 + 1)) then (if (wrap64 (bt321.1 + 1)) ≤ (x1.size : Int) then (if ((x1.extract 0 (bt321.1 : Int).toNat) ++ (strOfNums y327)).size + (x1.extract ((wrap64 (bt321.1 + 1)) : Int).toNat x1.size).size ≤ 9223372036854775807 then (spec_l1Cur_spoilt.l0 k (((x1.extract 0 (bt321.1 : Int).toNat) ++ (strOfNums y327)) ++ (x1.extract ((wrap64 (bt321.1 + 1)) : Int).toNat x1.size)) x2 (wrap64 (x7 - 1)) x1000 bt330.2.1 bt330.2.2) else (none)) else (none)) else (none)) else (none)) else (none)) else (none)) else (if 0 ≤ bt321.1 then (if bt321.1 ≤ (x1.size : Int) then (if 0 ≤ (wrap64 (bt321.1 + 1)) then (if (wrap64 (bt321.1 + 1)) ≤ (x1.size : Int) then (if (x1.extract 0 (bt321.1 : Int).toNat).size + (x1.extract ((wrap64 (bt321.1 + 1)) : Int).toNat x1.size).size ≤ 9223372036854775807 then (spec_l1Cur_spoilt.l0 k ((x1.extract 0 (bt321.1 : Int).toNat) ++ (x1.extract ((wrap64 (bt321.1 + 1)) : Int).toNat x1.size)) x2 (wrap64 (x7 - 1)) x1000 bt330.2.1 bt330.2.2) else (none)) else (none)) else (none)) else (none)) else (none)))))) else (none)) else (none)))) else (some (x1, x1001, x1002))
end
def spec_l1Cur_spoilt.f (k : Nat) (s0_0 : List Int) (s0_1 : Int) (s0_2 : Int) (a1 : ByteArray) (a2 : ByteArray) : Option (ByteArray × Int × Int) := (spec_l1Cur_pick.f s0_0 s0_1 s0_2 2).bind fun bt318 => (spec_l1Cur_spoilt.l0 k a1 a2 (wrap64 (1 + bt318.1)) s0_0 bt318.2.1 bt318.2.2)
theorem spec_l1Cur_spoilt.mono_l : ∀ k, (∀ y0 y1 y2 y3 y4 y5, LeO (spec_l1Cur_spoilt.l0 k y0 y1 y2 y3 y4 y5) (spec_l1Cur_spoilt.l0 (k + 1) y0 y1 y2 y3 y4 y5)) ∧ (∀ y0 y1 y2 y3 y4 y5 y6, LeO (spec_l1Cur_spoilt.j1 k y0 y1 y2 y3 y4 y5 y6) (spec_l1Cur_spoilt.j1 (k + 1) y0 y1 y2 y3 y4 y5 y6))
 | 0 => ⟨fun _ _ _ _ _ _ r h => by simp [spec_l1Cur_spoilt.l0] at h, fun _ _ _ _ _ _ _ r h => by simp [spec_l1Cur_spoilt.j1] at h⟩
 | k + 1 => by
  obtain ⟨ih0, ih1⟩ := spec_l1Cur_spoilt.mono_l k
  refine ⟨?_, ?_⟩
  ·intro y0 y1 y2 y3 y4 y5
   unfold spec_l1Cur_spoilt.l0
   repeat' first
   | (with_reducible exact ih0 _ _ _ _ _ _)
   | (with_reducible exact ih1 _ _ _ _ _ _ _)
   | (with_reducible exact LeO.refl _)
   | (with_reducible exact LeO.none _)
   | (with_reducible refine LeO.ite ?_ ?_)
   | (with_reducible refine LeO.bind ?_ (fun _ => ?_))
   | exact LeO.none _
   | refine LeO.ite ?_ ?_
   | refine LeO.bind ?_ (fun _ => ?_)
  ·intro y0 y1 y2 y3 y4 y5 y6
   unfold spec_l1Cur_spoilt.j1
   repeat' first
   | (with_reducible exact ih0 _ _ _ _ _ _)
   | (with_reducible exact ih1 _ _ _ _ _ _ _)
   | (with_reducible exact LeO.refl _)
   | (with_reducible exact LeO.none _)
   | (with_reducible refine LeO.ite ?_ ?_)
   | (with_reducible refine LeO.bind ?_ (fun _ => ?_))
   | exact LeO.none _
   | refine LeO.ite ?_ ?_
   | refine LeO.bind ?_ (fun _ => ?_)
theorem spec_l1Cur_spoilt.mono : ∀ a0 a1 a2 a3 a4 k, LeO (spec_l1Cur_spoilt.f k a0 a1 a2 a3 a4) (spec_l1Cur_spoilt.f (k + 1) a0 a1 a2 a3 a4) := by
 intro a0 a1 a2 a3 a4 k
 obtain ⟨ih0, ih1⟩ := spec_l1Cur_spoilt.mono_l k
 unfold spec_l1Cur_spoilt.f
 repeat' first
   | (with_reducible exact ih0 _ _ _ _ _ _)
   | (with_reducible exact ih1 _ _ _ _ _ _ _)
   | (with_reducible exact LeO.refl _)
   | (with_reducible exact LeO.none _)
   | (with_reducible refine LeO.ite ?_ ?_)
   | (with_reducible refine LeO.bind ?_ (fun _ => ?_))
   | exact LeO.none _
   | refine LeO.ite ?_ ?_
   | refine LeO.bind ?_ (fun _ => ?_)
theorem spec_l1Cur_spoilt.calls (k : Nat) (g : Nat) (s0_0 : List Int) (s0_1 : Int) (s0_2 : Int) (a1 : ByteArray) (a2 : ByteArray) (r1 : ByteArray) (r2 : Int) (r3 : Int) (w0 w : World) (hI : IsS48 w0 w g s0_0 s0_1 s0_2) (hB : Below w0.heap.size w0 w) (h : spec_l1Cur_spoilt.f k s0_0 s0_1 s0_2 a1 a2 = some (r1, r2, r3)) :
  Calls Try.prog 39 #[.pointer (some ⟨g, 0, none⟩), .string a1, .string a2] w fun e w' => e = .returned (.string r1) ∧ IsS48 w0 w' g s0_0 r2 r3 ∧ Below w0.heap.size w0 w' ∧ KeepBut w w' g none := by
 have HI0 := Aside0.mk hI
 have HK := Aside0.mk (KeepBut.refl w g none)
 have HL := Aside0.mk hB.size
 clear hI
 have HW0 := Aside0.mk hB.size
 have HB := Aside0.mk hB
 clear hB
 have H : ((spec_l1Cur_pick.f s0_0 s0_1 s0_2 2).bind fun bt318 => (spec_l1Cur_spoilt.l0 k a1 a2 (wrap64 (1 + bt318.1)) s0_0 bt318.2.1 bt318.2.2)) = some (r1, r2, r3) := h
 clear h
 replace H := Option.bind_eq_some_iff.mp H
 obtain ⟨⟨t318, t319, t320⟩, A40, H⟩ := H
 replace H : (spec_l1Cur_spoilt.l0 k a1 a2 (wrap64 (1 + t318)) s0_0 t319 t320) = some (r1, r2, r3) := H
 have A4 := Aside0.mk A40
 clear A40
 have H' := Aside0.mk H
 clear H
 go_enter Try.func39, Try.ntmps39
 go_wp2_with (first | (go_at_call 29; (with_reducible refine (spec_l1Cur_pick.calls g s0_0 s0_1 s0_2 2 t318 t319 t320 w0 _ ?side1 ?side2 A4.out).mono ?_); (case side1 => repeat (first | exact HI0.out | apply iA | apply iN | apply iD | apply i1 | apply i2)); (case side2 => repeat (first | exact HB.out | apply bA | apply bN | apply bD | refine below_set ?_ (iG HI0.out))); rintro e w5 ⟨rfl, hi, hb, hk⟩; replace HK := Aside0.mk (KeepBut.trans (by repeat (first | exact HK.out | apply kS | apply kN | apply kD | apply kA)) hk (.inl rfl)); replace HB := Aside0.mk (hb); replace HI0 := Aside0.mk (hi); (try clear hb2); (try clear hb hk hi)))
 repeat (go_quiet (first | (go_at_call 29; (with_reducible refine (spec_l1Cur_pick.calls g s0_0 s0_1 s0_2 2 t318 t319 t320 w0 _ ?side1 ?side2 A4.out).mono ?_); (case side1 => repeat (first | exact HI0.out | apply iA | apply iN | apply iD | apply i1 | apply i2)); (case side2 => repeat (first | exact HB.out | apply bA | apply bN | apply bD | refine below_set ?_ (iG HI0.out))); rintro e w5 ⟨rfl, hi, hb, hk⟩; replace HK := Aside0.mk (KeepBut.trans (by repeat (first | exact HK.out | apply kS | apply kN | apply kD | apply kA)) hk (.inl rfl)); replace HB := Aside0.mk (hb); replace HI0 := Aside0.mk (hi); (try clear hb2); (try clear hb hk hi))); try go_wp2_with (first | (go_at_call 29; (with_reducible refine (spec_l1Cur_pick.calls g s0_0 s0_1 s0_2 2 t318 t319 t320 w0 _ ?side1 ?side2 A4.out).mono ?_); (case side1 => repeat (first | exact HI0.out | apply iA | apply iN | apply iD | apply i1 | apply i2)); (case side2 => repeat (first | exact HB.out | apply bA | apply bN | apply bD | refine below_set ?_ (iG HI0.out))); rintro e w5 ⟨rfl, hi, hb, hk⟩; replace HK := Aside0.mk (KeepBut.trans (by repeat (first | exact HK.out | apply kS | apply kN | apply kD | apply kA)) hk (.inl rfl)); replace HB := Aside0.mk (hb); replace HI0 := Aside0.mk (hi); (try clear hb2); (try clear hb hk hi))))
 go_loopg [1, 7] k (fun kq v1 v7 w' => ∃ (x1_1 : ByteArray) (x7_1 : Int) (x1001_1 : Int) (x1002_1 : Int), v1 = .string x1_1 ∧ v7 = .int .i64 x7_1 ∧ Aside0 (spec_l1Cur_spoilt.l0 kq x1_1 a2 x7_1 s0_0 x1001_1 x1002_1 = some (r1, r2, r3)) ∧ Aside0 (kq ≤ k) ∧ Aside0 (IsS48 w0 w' g s0_0 x1001_1 x1002_1) ∧ Aside0 (KeepBut w w' g none) ∧ Aside0 (Below w0.heap.size w0 w'))
 case atStart => exact ⟨(a1), (wrap64 (1 + t318)), (t319), (t320), (by first | rfl | (simp; done) | (simp [*]; done)), (by first | rfl | (simp; done) | (simp [*]; done)), H', ⟨Nat.le_refl _⟩, ⟨by repeat (first | exact HI0.out | apply iA | apply iN | apply iD | apply i1 | apply i2)⟩, ⟨by repeat (first | exact HK.out | apply kS | apply kN | apply kD | apply kA)⟩, ⟨by repeat (first | exact HB.out | apply bA | apply bN | apply bD | refine below_set ?_ (iG HI0.out))⟩⟩
 case round =>
  clear H'
  try clear p2
  obtain ⟨x1_1, x7_1, x1001_1, x1002_1, rfl, rfl, HA, HK1, HI0, HK, HB⟩ := hrel
  cases gk with
  | zero => exact absurd HA.out (by simp [spec_l1Cur_spoilt.l0])
  | succ k1 =>
   have H := HA.out
   clear HA
   simp only [spec_l1Cur_spoilt.l0] at H
   have HC6 := Aside0.mk H
   clear H
   go_upto_region 2 with (fail)
   repeat (go_quiet (fail); go_upto_region 2 with (fail))
   go_cut [19] (fun v19 wc => ∃ (kq : Nat) (x19_5 : Bool), v19 = .bool x19_5 ∧ Aside0 (spec_l1Cur_spoilt.j1 kq x1_1 a2 x7_1 x19_5 s0_0 x1001_1 x1002_1 = some (r1, r2, r3)) ∧ Aside0 (kq ≤ k1) ∧ Aside0 (IsS48 w0 wc g s0_0 x1001_1 x1002_1) ∧ Aside0 (KeepBut w wc g none) ∧ Aside0 (Below w0.heap.size w0 wc))
   case first =>
    have H := HC6.out
    clear HC6
    by_cases c7 : x7_1 > 0
    ·rw [if_pos c7] at H
     have c7b0 : decide (0 < x7_1) = true := decide_eq_true c7
     clear c7
     (first | rw [c7b0] | (simp only [i64_w, i32_w]; rw [c7b0]) | skip)
     have H' := Aside0.mk H
     clear H
     go_wp2
     repeat (go_quiet (fail); try go_wp2)
     go_meet
     case rel => exact ⟨_, (decide ((x1_1.size : Int) > 0)), (by first | rfl | (simp; done) | (simp [*]; done)), H', ⟨by have := HK1.out; first | omega | exact Nat.le_refl _⟩, ⟨by repeat (first | exact HI0.out | apply iA | apply iN | apply iD | apply i1 | apply i2)⟩, ⟨by repeat (first | exact HK.out | apply kS | apply kN | apply kD | apply kA)⟩, ⟨by repeat (first | exact HB.out | apply bA | apply bN | apply bD | refine below_set ?_ (iG HI0.out))⟩⟩
    ·rw [if_neg c7] at H
     have c7b0 : decide (0 < x7_1) = false := decide_eq_false c7
     clear c7
     (first | rw [c7b0] | (simp only [i64_w, i32_w]; rw [c7b0]) | skip)
     have H' := Aside0.mk H
     clear H
     go_wp2
     repeat (go_quiet (fail); try go_wp2)
     go_meet
     case rel => exact ⟨_, (false), (by first | rfl | (simp; done) | (simp [*]; done)), H', ⟨by have := HK1.out; first | omega | exact Nat.le_refl _⟩, ⟨by repeat (first | exact HI0.out | apply iA | apply iN | apply iD | apply i1 | apply i2)⟩, ⟨by repeat (first | exact HK.out | apply kS | apply kN | apply kD | apply kA)⟩, ⟨by repeat (first | exact HB.out | apply bA | apply bN | apply bD | refine below_set ?_ (iG HI0.out))⟩⟩
   case rest =>
    clear HC6
    try clear p2
    try clear p6
    try clear p2
    obtain ⟨kq, x19_5, rfl, HA, HJ5, HI0, HK, HB⟩ := hcut
    cases kq with
    | zero => exact absurd HA.out (by simp [spec_l1Cur_spoilt.j1])
    | succ kj5 =>
     have H := HA.out
     clear HA
     simp only [spec_l1Cur_spoilt.j1] at H
     by_cases c8 : x19_5 = true
     ·subst c8
      have H1 : ((spec_l1Cur_pick.f s0_0 x1001_1 x1002_1 (x1_1.size : Int)).bind fun bt321 => ((spec_l1Cur_pick.f s0_0 bt321.2.1 bt321.2.2 (a2.size : Int)).bind fun bt324 => (if 0 ≤ bt324.1 then (if bt324.1 < (a2.size : Int) then ((some (([bt a2 bt324.1] : List Int) : List Int)).bind fun y327 => ((spec_l1Cur_pick.f s0_0 bt324.2.1 bt324.2.2 3).bind fun bt330 => (if bt330.1 = 0 then (if 0 ≤ bt321.1 then (if bt321.1 ≤ (x1_1.size : Int) then (if (x1_1.extract 0 (bt321.1 : Int).toNat).size + (strOfNums y327).size ≤ 9223372036854775807 then (if ((x1_1.extract 0 (bt321.1 : Int).toNat) ++ (strOfNums y327)).size + (x1_1.extract (bt321.1 : Int).toNat x1_1.size).size ≤ 9223372036854775807 then (spec_l1Cur_spoilt.l0 kj5 (((x1_1.extract 0 (bt321.1 : Int).toNat) ++ (strOfNums y327)) ++ (x1_1.extract (bt321.1 : Int).toNat x1_1.size)) a2 (wrap64 (x7_1 - 1)) s0_0 bt330.2.1 bt330.2.2) else (none)) else (none)) else (none)) else (none)) else (if bt330.1 = 1 then (if 0 ≤ bt321.1 then (if bt321.1 ≤ (x1_1.size : Int) then (if (x1_1.extract 0 (bt321.1 : Int).toNat).size + (strOfNums y327).size ≤ 9223372036854775807 then (if 0 ≤ (wrap64 (bt321.1 + 1)) then (if (wrap64 (bt321.1 + 1)) ≤ (x1_1.size : Int) then (if ((x1_1.extract 0 (bt321.1 : Int).toNat) ++ (strOfNums y327)).size + (x1_1.extract ((wrap64 (bt321.1 + 1)) : Int).toNat x1_1.size).size ≤ 9223372036854775807 then (spec_l1Cur_spoilt.l0 kj5 (((x1_1.extract 0 (bt321.1 : Int).toNat) ++ (strOfNums y327)) ++ (x1_1.extract ((wrap64 (bt321.1 + 1)) : Int).toNat x1_1.size)) a2 (wrap64 (x7_1 - 1)) s0_0 bt330.2.1 bt330.2.2) else (none)) else (none)) else (none)) else (none)) else (none)) else (none)) else (if 0 ≤ bt321.1 then (if bt321.1 ≤ (x1_1.size : Int) then (if 0 ≤ (wrap64 (bt321.1 + 1)) then (if (wrap64 (bt321.1 + 1)) ≤ (x1_1.size : Int) then (if (x1_1.extract 0 (bt321.1 : Int).toNat).size + (x1_1.extract ((wrap64 (bt321.1 + 1)) : Int).toNat x1_1.size).size ≤ 9223372036854775807 then (spec_l1Cur_spoilt.l0 kj5 ((x1_1.extract 0 (bt321.1 : Int).toNat) ++ (x1_1.extract ((wrap64 (bt321.1 + 1)) : Int).toNat x1_1.size)) a2 (wrap64 (x7_1 - 1)) s0_0 bt330.2.1 bt330.2.2) else (none)) else (none)) else (none)) else (none)) else (none)))))) else (none)) else (none)))) = some (r1, r2, r3) := by rw [if_pos rfl] at H; exact H
      clear H
      have H := H1
      clear H1
      replace H := Option.bind_eq_some_iff.mp H
      obtain ⟨⟨t321, t322, t323⟩, A90, H⟩ := H
      replace H : ((spec_l1Cur_pick.f s0_0 t322 t323 (a2.size : Int)).bind fun bt324 => (if 0 ≤ bt324.1 then (if bt324.1 < (a2.size : Int) then ((some (([bt a2 bt324.1] : List Int) : List Int)).bind fun y327 => ((spec_l1Cur_pick.f s0_0 bt324.2.1 bt324.2.2 3).bind fun bt330 => (if bt330.1 = 0 then (if 0 ≤ t321 then (if t321 ≤ (x1_1.size : Int) then (if (x1_1.extract 0 (t321 : Int).toNat).size + (strOfNums y327).size ≤ 9223372036854775807 then (if ((x1_1.extract 0 (t321 : Int).toNat) ++ (strOfNums y327)).size + (x1_1.extract (t321 : Int).toNat x1_1.size).size ≤ 9223372036854775807 then (spec_l1Cur_spoilt.l0 kj5 (((x1_1.extract 0 (t321 : Int).toNat) ++ (strOfNums y327)) ++ (x1_1.extract (t321 : Int).toNat x1_1.size)) a2 (wrap64 (x7_1 - 1)) s0_0 bt330.2.1 bt330.2.2) else (none)) else (none)) else (none)) else (none)) else (if bt330.1 = 1 then (if 0 ≤ t321 then (if t321 ≤ (x1_1.size : Int) then (if (x1_1.extract 0 (t321 : Int).toNat).size + (strOfNums y327).size ≤ 9223372036854775807 then (if 0 ≤ (wrap64 (t321 + 1)) then (if (wrap64 (t321 + 1)) ≤ (x1_1.size : Int) then (if ((x1_1.extract 0 (t321 : Int).toNat) ++ (strOfNums y327)).size + (x1_1.extract ((wrap64 (t321 + 1)) : Int).toNat x1_1.size).size ≤ 9223372036854775807 then (spec_l1Cur_spoilt.l0 kj5 (((x1_1.extract 0 (t321 : Int).toNat) ++ (strOfNums y327)) ++ (x1_1.extract ((wrap64 (t321 + 1)) : Int).toNat x1_1.size)) a2 (wrap64 (x7_1 - 1)) s0_0 bt330.2.1 bt330.2.2) else (none)) else (none)) else (none)) else (none)) else (none)) else (none)) else (if 0 ≤ t321 then (if t321 ≤ (x1_1.size : Int) then (if 0 ≤ (wrap64 (t321 + 1)) then (if (wrap64 (t321 + 1)) ≤ (x1_1.size : Int) then (if (x1_1.extract 0 (t321 : Int).toNat).size + (x1_1.extract ((wrap64 (t321 + 1)) : Int).toNat x1_1.size).size ≤ 9223372036854775807 then (spec_l1Cur_spoilt.l0 kj5 ((x1_1.extract 0 (t321 : Int).toNat) ++ (x1_1.extract ((wrap64 (t321 + 1)) : Int).toNat x1_1.size)) a2 (wrap64 (x7_1 - 1)) s0_0 bt330.2.1 bt330.2.2) else (none)) else (none)) else (none)) else (none)) else (none)))))) else (none)) else (none))) = some (r1, r2, r3) := H
      have A9 := Aside0.mk A90
      clear A90
      replace H := Option.bind_eq_some_iff.mp H
      obtain ⟨⟨t324, t325, t326⟩, A100, H⟩ := H
      replace H : (if 0 ≤ t324 then (if t324 < (a2.size : Int) then ((some (([bt a2 t324] : List Int) : List Int)).bind fun y327 => ((spec_l1Cur_pick.f s0_0 t325 t326 3).bind fun bt330 => (if bt330.1 = 0 then (if 0 ≤ t321 then (if t321 ≤ (x1_1.size : Int) then (if (x1_1.extract 0 (t321 : Int).toNat).size + (strOfNums y327).size ≤ 9223372036854775807 then (if ((x1_1.extract 0 (t321 : Int).toNat) ++ (strOfNums y327)).size + (x1_1.extract (t321 : Int).toNat x1_1.size).size ≤ 9223372036854775807 then (spec_l1Cur_spoilt.l0 kj5 (((x1_1.extract 0 (t321 : Int).toNat) ++ (strOfNums y327)) ++ (x1_1.extract (t321 : Int).toNat x1_1.size)) a2 (wrap64 (x7_1 - 1)) s0_0 bt330.2.1 bt330.2.2) else (none)) else (none)) else (none)) else (none)) else (if bt330.1 = 1 then (if 0 ≤ t321 then (if t321 ≤ (x1_1.size : Int) then (if (x1_1.extract 0 (t321 : Int).toNat).size + (strOfNums y327).size ≤ 9223372036854775807 then (if 0 ≤ (wrap64 (t321 + 1)) then (if (wrap64 (t321 + 1)) ≤ (x1_1.size : Int) then (if ((x1_1.extract 0 (t321 : Int).toNat) ++ (strOfNums y327)).size + (x1_1.extract ((wrap64 (t321 + 1)) : Int).toNat x1_1.size).size ≤ 9223372036854775807 then (spec_l1Cur_spoilt.l0 kj5 (((x1_1.extract 0 (t321 : Int).toNat) ++ (strOfNums y327)) ++ (x1_1.extract ((wrap64 (t321 + 1)) : Int).toNat x1_1.size)) a2 (wrap64 (x7_1 - 1)) s0_0 bt330.2.1 bt330.2.2) else (none)) else (none)) else (none)) else (none)) else (none)) else (none)) else (if 0 ≤ t321 then (if t321 ≤ (x1_1.size : Int) then (if 0 ≤ (wrap64 (t321 + 1)) then (if (wrap64 (t321 + 1)) ≤ (x1_1.size : Int) then (if (x1_1.extract 0 (t321 : Int).toNat).size + (x1_1.extract ((wrap64 (t321 + 1)) : Int).toNat x1_1.size).size ≤ 9223372036854775807 then (spec_l1Cur_spoilt.l0 kj5 ((x1_1.extract 0 (t321 : Int).toNat) ++ (x1_1.extract ((wrap64 (t321 + 1)) : Int).toNat x1_1.size)) a2 (wrap64 (x7_1 - 1)) s0_0 bt330.2.1 bt330.2.2) else (none)) else (none)) else (none)) else (none)) else (none)))))) else (none)) else (none)) = some (r1, r2, r3) := H
      have A10 := Aside0.mk A100
      clear A100
      by_cases c11 : 0 ≤ t324
      ·rw [if_pos c11] at H
       have c11b0 : decide (0 ≤ t324) = true := decide_eq_true c11
       clear c11
       by_cases c12 : t324 < (a2.size : Int)
       ·rw [if_pos c12] at H
        have c12b0 : decide (t324 < (a2.size : Int)) = true := decide_eq_true c12
        clear c12
        obtain ⟨y327, hy327⟩ : ∃ y_ : List Int, y_ = (([bt a2 t324] : List Int)) := ⟨_, rfl⟩
        replace H : ((spec_l1Cur_pick.f s0_0 t325 t326 3).bind fun bt330 => (if bt330.1 = 0 then (if 0 ≤ t321 then (if t321 ≤ (x1_1.size : Int) then (if (x1_1.extract 0 (t321 : Int).toNat).size + (strOfNums y327).size ≤ 9223372036854775807 then (if ((x1_1.extract 0 (t321 : Int).toNat) ++ (strOfNums y327)).size + (x1_1.extract (t321 : Int).toNat x1_1.size).size ≤ 9223372036854775807 then (spec_l1Cur_spoilt.l0 kj5 (((x1_1.extract 0 (t321 : Int).toNat) ++ (strOfNums y327)) ++ (x1_1.extract (t321 : Int).toNat x1_1.size)) a2 (wrap64 (x7_1 - 1)) s0_0 bt330.2.1 bt330.2.2) else (none)) else (none)) else (none)) else (none)) else (if bt330.1 = 1 then (if 0 ≤ t321 then (if t321 ≤ (x1_1.size : Int) then (if (x1_1.extract 0 (t321 : Int).toNat).size + (strOfNums y327).size ≤ 9223372036854775807 then (if 0 ≤ (wrap64 (t321 + 1)) then (if (wrap64 (t321 + 1)) ≤ (x1_1.size : Int) then (if ((x1_1.extract 0 (t321 : Int).toNat) ++ (strOfNums y327)).size + (x1_1.extract ((wrap64 (t321 + 1)) : Int).toNat x1_1.size).size ≤ 9223372036854775807 then (spec_l1Cur_spoilt.l0 kj5 (((x1_1.extract 0 (t321 : Int).toNat) ++ (strOfNums y327)) ++ (x1_1.extract ((wrap64 (t321 + 1)) : Int).toNat x1_1.size)) a2 (wrap64 (x7_1 - 1)) s0_0 bt330.2.1 bt330.2.2) else (none)) else (none)) else (none)) else (none)) else (none)) else (none)) else (if 0 ≤ t321 then (if t321 ≤ (x1_1.size : Int) then (if 0 ≤ (wrap64 (t321 + 1)) then (if (wrap64 (t321 + 1)) ≤ (x1_1.size : Int) then (if (x1_1.extract 0 (t321 : Int).toNat).size + (x1_1.extract ((wrap64 (t321 + 1)) : Int).toNat x1_1.size).size ≤ 9223372036854775807 then (spec_l1Cur_spoilt.l0 kj5 ((x1_1.extract 0 (t321 : Int).toNat) ++ (x1_1.extract ((wrap64 (t321 + 1)) : Int).toNat x1_1.size)) a2 (wrap64 (x7_1 - 1)) s0_0 bt330.2.1 bt330.2.2) else (none)) else (none)) else (none)) else (none)) else (none))))) = some (r1, r2, r3) := by first | (rw [hy327]; with_reducible exact H) | (have H2_ := (Option.bind_some _ _).symm.trans H; rw [hy327]; with_reducible exact H2_) | (have H2_ := (Option.bind_some _ _).symm.trans H; with_reducible exact H2_) | with_reducible exact H | (rw [hy327]; exact H) | exact H
        have Ny327 := Aside0.mk hy327
        clear hy327
        replace H := Option.bind_eq_some_iff.mp H
        obtain ⟨⟨t330, t331, t332⟩, A140, H⟩ := H
        replace H : (if t330 = 0 then (if 0 ≤ t321 then (if t321 ≤ (x1_1.size : Int) then (if (x1_1.extract 0 (t321 : Int).toNat).size + (strOfNums y327).size ≤ 9223372036854775807 then (if ((x1_1.extract 0 (t321 : Int).toNat) ++ (strOfNums y327)).size + (x1_1.extract (t321 : Int).toNat x1_1.size).size ≤ 9223372036854775807 then (spec_l1Cur_spoilt.l0 kj5 (((x1_1.extract 0 (t321 : Int).toNat) ++ (strOfNums y327)) ++ (x1_1.extract (t321 : Int).toNat x1_1.size)) a2 (wrap64 (x7_1 - 1)) s0_0 t331 t332) else (none)) else (none)) else (none)) else (none)) else (if t330 = 1 then (if 0 ≤ t321 then (if t321 ≤ (x1_1.size : Int) then (if (x1_1.extract 0 (t321 : Int).toNat).size + (strOfNums y327).size ≤ 9223372036854775807 then (if 0 ≤ (wrap64 (t321 + 1)) then (if (wrap64 (t321 + 1)) ≤ (x1_1.size : Int) then (if ((x1_1.extract 0 (t321 : Int).toNat) ++ (strOfNums y327)).size + (x1_1.extract ((wrap64 (t321 + 1)) : Int).toNat x1_1.size).size ≤ 9223372036854775807 then (spec_l1Cur_spoilt.l0 kj5 (((x1_1.extract 0 (t321 : Int).toNat) ++ (strOfNums y327)) ++ (x1_1.extract ((wrap64 (t321 + 1)) : Int).toNat x1_1.size)) a2 (wrap64 (x7_1 - 1)) s0_0 t331 t332) else (none)) else (none)) else (none)) else (none)) else (none)) else (none)) else (if 0 ≤ t321 then (if t321 ≤ (x1_1.size : Int) then (if 0 ≤ (wrap64 (t321 + 1)) then (if (wrap64 (t321 + 1)) ≤ (x1_1.size : Int) then (if (x1_1.extract 0 (t321 : Int).toNat).size + (x1_1.extract ((wrap64 (t321 + 1)) : Int).toNat x1_1.size).size ≤ 9223372036854775807 then (spec_l1Cur_spoilt.l0 kj5 ((x1_1.extract 0 (t321 : Int).toNat) ++ (x1_1.extract ((wrap64 (t321 + 1)) : Int).toNat x1_1.size)) a2 (wrap64 (x7_1 - 1)) s0_0 t331 t332) else (none)) else (none)) else (none)) else (none)) else (none)))) = some (r1, r2, r3) := H
        have A14 := Aside0.mk A140
        clear A140
        by_cases c15 : t330 = 0
        ·rw [if_pos c15] at H
         have c15b0 : (t330 == 0) = true := beq_iff_eq.mpr c15
         have c15b1 : (t330 != 0) = false := bne_eq_false_iff_eq.mpr c15
         clear c15
         by_cases c16 : 0 ≤ t321
         ·rw [if_pos c16] at H
          have c16b0 := eq_true c16
          have c16b1 : decide (0 ≤ t321) = true := decide_eq_true c16
          clear c16
          by_cases c17 : t321 ≤ (x1_1.size : Int)
          ·rw [if_pos c17] at H
           have c17b0 := eq_true c17
           have c17b1 : decide (t321 ≤ (x1_1.size : Int)) = true := decide_eq_true c17
           clear c17
           by_cases c18 : (x1_1.extract 0 (t321 : Int).toNat).size + (strOfNums y327).size ≤ 9223372036854775807
           ·rw [if_pos c18] at H
            have c18b0 := eq_true c18
            have c18b1 : decide ((x1_1.extract 0 (t321 : Int).toNat).size + (strOfNums y327).size ≤ 9223372036854775807) = true := decide_eq_true c18
            try have c18b2 : (9223372036854775807 < (x1_1.extract 0 (t321 : Int).toNat).size + (strOfNums y327).size) = False := eq_false (Nat.not_lt.2 c18)
            have c19b0 := eq_true (of_decide_eq_true (by assumption) : 0 ≤ t321)
            have c20b0 := eq_true (of_decide_eq_true (by assumption) : t321 ≤ (x1_1.size : Int))
            by_cases c21 : ((x1_1.extract 0 (t321 : Int).toNat) ++ (strOfNums y327)).size + (x1_1.extract (t321 : Int).toNat x1_1.size).size ≤ 9223372036854775807
            ·rw [if_pos c21] at H
             have c21b0 := eq_true c21
             have c21b1 : decide (((x1_1.extract 0 (t321 : Int).toNat) ++ (strOfNums y327)).size + (x1_1.extract (t321 : Int).toNat x1_1.size).size ≤ 9223372036854775807) = true := decide_eq_true c21
             try have c21b2 : (9223372036854775807 < ((x1_1.extract 0 (t321 : Int).toNat) ++ (strOfNums y327)).size + (x1_1.extract (t321 : Int).toNat x1_1.size).size) = False := eq_false (Nat.not_lt.2 c21)
             have H' := Aside0.mk H
             clear H
             go_wp2_with (first | (go_at_call 29; (with_reducible refine (spec_l1Cur_pick.calls g s0_0 x1001_1 x1002_1 (x1_1.size : Int) t321 t322 t323 w0 _ ?side1 ?side2 A9.out).mono ?_); (case side1 => repeat (first | exact HI0.out | apply iA | apply iN | apply iD | apply i1 | apply i2)); (case side2 => repeat (first | exact HB.out | apply bA | apply bN | apply bD | refine below_set ?_ (iG HI0.out))); rintro e w22 ⟨rfl, hi, hb, hk⟩; replace HK := Aside0.mk (KeepBut.trans (by repeat (first | exact HK.out | apply kS | apply kN | apply kD | apply kA)) hk (.inl rfl)); replace HB := Aside0.mk (hb); replace HI0 := Aside0.mk (hi); (try clear hb2); (try clear hb hk hi)) | (go_at_call 29; (with_reducible refine (spec_l1Cur_pick.calls g s0_0 t322 t323 (a2.size : Int) t324 t325 t326 w0 _ ?side1 ?side2 A10.out).mono ?_); (case side1 => repeat (first | exact HI0.out | apply iA | apply iN | apply iD | apply i1 | apply i2)); (case side2 => repeat (first | exact HB.out | apply bA | apply bN | apply bD | refine below_set ?_ (iG HI0.out))); rintro e w23 ⟨rfl, hi, hb, hk⟩; replace HK := Aside0.mk (KeepBut.trans (by repeat (first | exact HK.out | apply kS | apply kN | apply kD | apply kA)) hk (.inl rfl)); replace HB := Aside0.mk (hb); replace HI0 := Aside0.mk (hi); (try clear hb2); (try clear hb hk hi); have p13 : 0 ≤ (t324 : Int) := of_decide_eq_true (by assumption); have q13 : t324 < (a2.size : Int) := of_decide_eq_true (by assumption); have hx13 := bt_at a2 t324; replace p13 := eq_true p13; replace q13 := eq_true q13) | ((with_reducible refine gate_dst (N := 32) rfl ?_); (try (refine gate_guard (by rfl) ?_; dsimp only)); refine Kd.R_lit (Kd.int .u8) _ 5 ?hg (N := 32) ?hd (xs := ([bt a2 t324] : List Int)) (inner := [.int .u8 (bt a2 t324)]) (ok := fun _ => True) (okp := fun _ => True) ?hr ?hp (fun _ hk => hk) trivial (Below.refl _ _) (Nat.le_refl _) (by simp) ?_; (case hd => rfl); (case hg => rfl); (case hr => first | (go_simp; done) | (go_simp; rfl)); (case hp => exact (Reps.one (show Kd.M (Kd.int .u8) _ _ _ (bt a2 t324) [.int .u8 (bt a2 t324)] from rfl) (Reps.none _ _))); intro v328 w24 ho25 hb hg_ hnew_; clear hg_ hnew_; (first | rw [← Ny327.out] at ho25 | (simp only [Int.reduceToNat] at ho25; rw [← Ny327.out] at ho25)); have HO329 := Aside0.mk (Kd.R_lower ho25 (keep_size (w := w) (g := g) (row := none) (by repeat (first | exact HK.out | apply kS | apply kN | apply kD | apply kA)))); replace HK := Aside0.mk (KeepBut.trans (by repeat (first | exact HK.out | apply kS | apply kN | apply kD | apply kA)) (KeepBut.of_below hb g none) (.inl rfl)); replace HB := Aside0.mk (below_step (by repeat (first | exact HB.out | apply bA | apply bN | apply bD | refine below_set ?_ (iG HI0.out))) hb); replace HI0 := Aside0.mk (IsS48.below (by repeat (first | exact HI0.out | apply iA | apply iN | apply iD | apply i1 | apply i2)) hb); clear hb ho25; have hcv26 := own_string (P := Try.prog) Try.underlying22 Try.underlying5 Try.underlying9 (Kd.own_of_R HO329.out)) | (go_at_call 29; (with_reducible refine (spec_l1Cur_pick.calls g s0_0 t325 t326 3 t330 t331 t332 w0 _ ?side1 ?side2 A14.out).mono ?_); (case side1 => repeat (first | exact HI0.out | apply iA | apply iN | apply iD | apply i1 | apply i2)); (case side2 => repeat (first | exact HB.out | apply bA | apply bN | apply bD | refine below_set ?_ (iG HI0.out))); rintro e w27 ⟨rfl, hi, hb, hk⟩; replace HO329 := Aside0.mk (Kd.R_mono (Kd.R_keep (IsS48.apart (show IsS48 w0 _ g s0_0 t325 t326 from by repeat (first | exact HI0.out | apply iA | apply iN | apply iD | apply i1 | apply i2)) (by (with_reducible repeat (first | apply rA | apply rN | apply rD)); exact HO329.out) (by decide)) hk (fun _ h => h.2)) (fun _ h => h.1)); replace HK := Aside0.mk (KeepBut.trans (by repeat (first | exact HK.out | apply kS | apply kN | apply kD | apply kA)) hk (.inl rfl)); replace HB := Aside0.mk (hb); replace HI0 := Aside0.mk (hi); (try clear hb2); (try clear hb hk hi)))
             repeat (go_quiet (first | (go_at_call 29; (with_reducible refine (spec_l1Cur_pick.calls g s0_0 x1001_1 x1002_1 (x1_1.size : Int) t321 t322 t323 w0 _ ?side1 ?side2 A9.out).mono ?_); (case side1 => repeat (first | exact HI0.out | apply iA | apply iN | apply iD | apply i1 | apply i2)); (case side2 => repeat (first | exact HB.out | apply bA | apply bN | apply bD | refine below_set ?_ (iG HI0.out))); rintro e w22 ⟨rfl, hi, hb, hk⟩; replace HK := Aside0.mk (KeepBut.trans (by repeat (first | exact HK.out | apply kS | apply kN | apply kD | apply kA)) hk (.inl rfl)); replace HB := Aside0.mk (hb); replace HI0 := Aside0.mk (hi); (try clear hb2); (try clear hb hk hi)) | (go_at_call 29; (with_reducible refine (spec_l1Cur_pick.calls g s0_0 t322 t323 (a2.size : Int) t324 t325 t326 w0 _ ?side1 ?side2 A10.out).mono ?_); (case side1 => repeat (first | exact HI0.out | apply iA | apply iN | apply iD | apply i1 | apply i2)); (case side2 => repeat (first | exact HB.out | apply bA | apply bN | apply bD | refine below_set ?_ (iG HI0.out))); rintro e w23 ⟨rfl, hi, hb, hk⟩; replace HK := Aside0.mk (KeepBut.trans (by repeat (first | exact HK.out | apply kS | apply kN | apply kD | apply kA)) hk (.inl rfl)); replace HB := Aside0.mk (hb); replace HI0 := Aside0.mk (hi); (try clear hb2); (try clear hb hk hi); have p13 : 0 ≤ (t324 : Int) := of_decide_eq_true (by assumption); have q13 : t324 < (a2.size : Int) := of_decide_eq_true (by assumption); have hx13 := bt_at a2 t324; replace p13 := eq_true p13; replace q13 := eq_true q13) | ((with_reducible refine gate_dst (N := 32) rfl ?_); (try (refine gate_guard (by rfl) ?_; dsimp only)); refine Kd.R_lit (Kd.int .u8) _ 5 ?hg (N := 32) ?hd (xs := ([bt a2 t324] : List Int)) (inner := [.int .u8 (bt a2 t324)]) (ok := fun _ => True) (okp := fun _ => True) ?hr ?hp (fun _ hk => hk) trivial (Below.refl _ _) (Nat.le_refl _) (by simp) ?_; (case hd => rfl); (case hg => rfl); (case hr => first | (go_simp; done) | (go_simp; rfl)); (case hp => exact (Reps.one (show Kd.M (Kd.int .u8) _ _ _ (bt a2 t324) [.int .u8 (bt a2 t324)] from rfl) (Reps.none _ _))); intro v328 w24 ho25 hb hg_ hnew_; clear hg_ hnew_; (first | rw [← Ny327.out] at ho25 | (simp only [Int.reduceToNat] at ho25; rw [← Ny327.out] at ho25)); have HO329 := Aside0.mk (Kd.R_lower ho25 (keep_size (w := w) (g := g) (row := none) (by repeat (first | exact HK.out | apply kS | apply kN | apply kD | apply kA)))); replace HK := Aside0.mk (KeepBut.trans (by repeat (first | exact HK.out | apply kS | apply kN | apply kD | apply kA)) (KeepBut.of_below hb g none) (.inl rfl)); replace HB := Aside0.mk (below_step (by repeat (first | exact HB.out | apply bA | apply bN | apply bD | refine below_set ?_ (iG HI0.out))) hb); replace HI0 := Aside0.mk (IsS48.below (by repeat (first | exact HI0.out | apply iA | apply iN | apply iD | apply i1 | apply i2)) hb); clear hb ho25; have hcv26 := own_string (P := Try.prog) Try.underlying22 Try.underlying5 Try.underlying9 (Kd.own_of_R HO329.out)) | (go_at_call 29; (with_reducible refine (spec_l1Cur_pick.calls g s0_0 t325 t326 3 t330 t331 t332 w0 _ ?side1 ?side2 A14.out).mono ?_); (case side1 => repeat (first | exact HI0.out | apply iA | apply iN | apply iD | apply i1 | apply i2)); (case side2 => repeat (first | exact HB.out | apply bA | apply bN | apply bD | refine below_set ?_ (iG HI0.out))); rintro e w27 ⟨rfl, hi, hb, hk⟩; replace HO329 := Aside0.mk (Kd.R_mono (Kd.R_keep (IsS48.apart (show IsS48 w0 _ g s0_0 t325 t326 from by repeat (first | exact HI0.out | apply iA | apply iN | apply iD | apply i1 | apply i2)) (by (with_reducible repeat (first | apply rA | apply rN | apply rD)); exact HO329.out) (by decide)) hk (fun _ h => h.2)) (fun _ h => h.1)); replace HK := Aside0.mk (KeepBut.trans (by repeat (first | exact HK.out | apply kS | apply kN | apply kD | apply kA)) hk (.inl rfl)); replace HB := Aside0.mk (hb); replace HI0 := Aside0.mk (hi); (try clear hb2); (try clear hb hk hi))); try go_wp2_with (first | (go_at_call 29; (with_reducible refine (spec_l1Cur_pick.calls g s0_0 x1001_1 x1002_1 (x1_1.size : Int) t321 t322 t323 w0 _ ?side1 ?side2 A9.out).mono ?_); (case side1 => repeat (first | exact HI0.out | apply iA | apply iN | apply iD | apply i1 | apply i2)); (case side2 => repeat (first | exact HB.out | apply bA | apply bN | apply bD | refine below_set ?_ (iG HI0.out))); rintro e w22 ⟨rfl, hi, hb, hk⟩; replace HK := Aside0.mk (KeepBut.trans (by repeat (first | exact HK.out | apply kS | apply kN | apply kD | apply kA)) hk (.inl rfl)); replace HB := Aside0.mk (hb); replace HI0 := Aside0.mk (hi); (try clear hb2); (try clear hb hk hi)) | (go_at_call 29; (with_reducible refine (spec_l1Cur_pick.calls g s0_0 t322 t323 (a2.size : Int) t324 t325 t326 w0 _ ?side1 ?side2 A10.out).mono ?_); (case side1 => repeat (first | exact HI0.out | apply iA | apply iN | apply iD | apply i1 | apply i2)); (case side2 => repeat (first | exact HB.out | apply bA | apply bN | apply bD | refine below_set ?_ (iG HI0.out))); rintro e w23 ⟨rfl, hi, hb, hk⟩; replace HK := Aside0.mk (KeepBut.trans (by repeat (first | exact HK.out | apply kS | apply kN | apply kD | apply kA)) hk (.inl rfl)); replace HB := Aside0.mk (hb); replace HI0 := Aside0.mk (hi); (try clear hb2); (try clear hb hk hi); have p13 : 0 ≤ (t324 : Int) := of_decide_eq_true (by assumption); have q13 : t324 < (a2.size : Int) := of_decide_eq_true (by assumption); have hx13 := bt_at a2 t324; replace p13 := eq_true p13; replace q13 := eq_true q13) | ((with_reducible refine gate_dst (N := 32) rfl ?_); (try (refine gate_guard (by rfl) ?_; dsimp only)); refine Kd.R_lit (Kd.int .u8) _ 5 ?hg (N := 32) ?hd (xs := ([bt a2 t324] : List Int)) (inner := [.int .u8 (bt a2 t324)]) (ok := fun _ => True) (okp := fun _ => True) ?hr ?hp (fun _ hk => hk) trivial (Below.refl _ _) (Nat.le_refl _) (by simp) ?_; (case hd => rfl); (case hg => rfl); (case hr => first | (go_simp; done) | (go_simp; rfl)); (case hp => exact (Reps.one (show Kd.M (Kd.int .u8) _ _ _ (bt a2 t324) [.int .u8 (bt a2 t324)] from rfl) (Reps.none _ _))); intro v328 w24 ho25 hb hg_ hnew_; clear hg_ hnew_; (first | rw [← Ny327.out] at ho25 | (simp only [Int.reduceToNat] at ho25; rw [← Ny327.out] at ho25)); have HO329 := Aside0.mk (Kd.R_lower ho25 (keep_size (w := w) (g := g) (row := none) (by repeat (first | exact HK.out | apply kS | apply kN | apply kD | apply kA)))); replace HK := Aside0.mk (KeepBut.trans (by repeat (first | exact HK.out | apply kS | apply kN | apply kD | apply kA)) (KeepBut.of_below hb g none) (.inl rfl)); replace HB := Aside0.mk (below_step (by repeat (first | exact HB.out | apply bA | apply bN | apply bD | refine below_set ?_ (iG HI0.out))) hb); replace HI0 := Aside0.mk (IsS48.below (by repeat (first | exact HI0.out | apply iA | apply iN | apply iD | apply i1 | apply i2)) hb); clear hb ho25; have hcv26 := own_string (P := Try.prog) Try.underlying22 Try.underlying5 Try.underlying9 (Kd.own_of_R HO329.out)) | (go_at_call 29; (with_reducible refine (spec_l1Cur_pick.calls g s0_0 t325 t326 3 t330 t331 t332 w0 _ ?side1 ?side2 A14.out).mono ?_); (case side1 => repeat (first | exact HI0.out | apply iA | apply iN | apply iD | apply i1 | apply i2)); (case side2 => repeat (first | exact HB.out | apply bA | apply bN | apply bD | refine below_set ?_ (iG HI0.out))); rintro e w27 ⟨rfl, hi, hb, hk⟩; replace HO329 := Aside0.mk (Kd.R_mono (Kd.R_keep (IsS48.apart (show IsS48 w0 _ g s0_0 t325 t326 from by repeat (first | exact HI0.out | apply iA | apply iN | apply iD | apply i1 | apply i2)) (by (with_reducible repeat (first | apply rA | apply rN | apply rD)); exact HO329.out) (by decide)) hk (fun _ h => h.2)) (fun _ h => h.1)); replace HK := Aside0.mk (KeepBut.trans (by repeat (first | exact HK.out | apply kS | apply kN | apply kD | apply kA)) hk (.inl rfl)); replace HB := Aside0.mk (hb); replace HI0 := Aside0.mk (hi); (try clear hb2); (try clear hb hk hi))))
             go_roundg kj5
             case measure => have := HK1.out; have := HJ5.out; omega
             case rel => exact ⟨(((x1_1.extract 0 (t321 : Int).toNat) ++ (strOfNums y327)) ++ (x1_1.extract (t321 : Int).toNat x1_1.size)), (wrap64 (x7_1 - 1)), (t331), (t332), (by first | rfl | (simp; done) | (simp [*]; done)), (by first | rfl | (simp; done) | (simp [*]; done)), H', ⟨by have := HK1.out; have := HJ5.out; omega⟩, ⟨by repeat (first | exact HI0.out | apply iA | apply iN | apply iD | apply i1 | apply i2)⟩, ⟨by repeat (first | exact HK.out | apply kS | apply kN | apply kD | apply kA)⟩, ⟨by repeat (first | exact HB.out | apply bA | apply bN | apply bD | refine below_set ?_ (iG HI0.out))⟩⟩
            ·rw [if_neg c21] at H
             exact absurd H (by simp)
           ·rw [if_neg c18] at H
            exact absurd H (by simp)
          ·rw [if_neg c17] at H
           exact absurd H (by simp)
         ·rw [if_neg c16] at H
          exact absurd H (by simp)
        ·rw [if_neg c15] at H
         have c15b0 : (t330 == 0) = false := beq_eq_false_iff_ne.mpr c15
         have c15b1 : (t330 != 0) = true := bne_iff_ne.mpr c15
         by_cases c28 : t330 = 1
         ·rw [if_pos c28] at H
          have c28b0 : (t330 == 1) = true := beq_iff_eq.mpr c28
          have c28b1 : (t330 != 1) = false := bne_eq_false_iff_eq.mpr c28
          clear c28
          by_cases c29 : 0 ≤ t321
          ·rw [if_pos c29] at H
           have c29b0 := eq_true c29
           have c29b1 : decide (0 ≤ t321) = true := decide_eq_true c29
           clear c29
           by_cases c30 : t321 ≤ (x1_1.size : Int)
           ·rw [if_pos c30] at H
            have c30b0 := eq_true c30
            have c30b1 : decide (t321 ≤ (x1_1.size : Int)) = true := decide_eq_true c30
            clear c30
            by_cases c31 : (x1_1.extract 0 (t321 : Int).toNat).size + (strOfNums y327).size ≤ 9223372036854775807
            ·rw [if_pos c31] at H
             have c31b0 := eq_true c31
             have c31b1 : decide ((x1_1.extract 0 (t321 : Int).toNat).size + (strOfNums y327).size ≤ 9223372036854775807) = true := decide_eq_true c31
             try have c31b2 : (9223372036854775807 < (x1_1.extract 0 (t321 : Int).toNat).size + (strOfNums y327).size) = False := eq_false (Nat.not_lt.2 c31)
             obtain ⟨ji32, hji32⟩ : ∃ j_ : Int, (wrap64 (t321 + 1)) = j_ := ⟨_, rfl⟩
             replace H : (if 0 ≤ (ji32) then (if (ji32) ≤ (x1_1.size : Int) then (if ((x1_1.extract 0 (t321 : Int).toNat) ++ (strOfNums y327)).size + (x1_1.extract ((ji32) : Int).toNat x1_1.size).size ≤ 9223372036854775807 then (spec_l1Cur_spoilt.l0 kj5 (((x1_1.extract 0 (t321 : Int).toNat) ++ (strOfNums y327)) ++ (x1_1.extract ((ji32) : Int).toNat x1_1.size)) a2 (wrap64 (x7_1 - 1)) s0_0 t331 t332) else (none)) else (none)) else (none)) = some (r1, r2, r3) := by first | (rw [hji32] at H; exact H) | (simp only [hji32] at H ⊢; exact H)
             (try rw [hji32] at A9)
             (try rw [hji32] at A10)
             (try rw [hji32] at A14)
             have hji32w : (IntKind.i64.wrap (t321 + 1)) = ji32 := (i64_w _).trans hji32
             by_cases c33 : 0 ≤ (ji32)
             ·rw [if_pos c33] at H
              have c33b0 := eq_true c33
              have c33b1 : decide (0 ≤ (ji32)) = true := decide_eq_true c33
              clear c33
              by_cases c34 : (ji32) ≤ (x1_1.size : Int)
              ·rw [if_pos c34] at H
               have c34b0 := eq_true c34
               have c34b1 : decide ((ji32) ≤ (x1_1.size : Int)) = true := decide_eq_true c34
               clear c34
               by_cases c35 : ((x1_1.extract 0 (t321 : Int).toNat) ++ (strOfNums y327)).size + (x1_1.extract ((ji32) : Int).toNat x1_1.size).size ≤ 9223372036854775807
               ·rw [if_pos c35] at H
                have c35b0 := eq_true c35
                have c35b1 : decide (((x1_1.extract 0 (t321 : Int).toNat) ++ (strOfNums y327)).size + (x1_1.extract ((ji32) : Int).toNat x1_1.size).size ≤ 9223372036854775807) = true := decide_eq_true c35
                try have c35b2 : (9223372036854775807 < ((x1_1.extract 0 (t321 : Int).toNat) ++ (strOfNums y327)).size + (x1_1.extract ((ji32) : Int).toNat x1_1.size).size) = False := eq_false (Nat.not_lt.2 c35)
                have H' := Aside0.mk H
                clear H
                go_wp2_with (first | (go_at_call 29; (with_reducible refine (spec_l1Cur_pick.calls g s0_0 x1001_1 x1002_1 (x1_1.size : Int) t321 t322 t323 w0 _ ?side1 ?side2 A9.out).mono ?_); (case side1 => repeat (first | exact HI0.out | apply iA | apply iN | apply iD | apply i1 | apply i2)); (case side2 => repeat (first | exact HB.out | apply bA | apply bN | apply bD | refine below_set ?_ (iG HI0.out))); rintro e w36 ⟨rfl, hi, hb, hk⟩; replace HK := Aside0.mk (KeepBut.trans (by repeat (first | exact HK.out | apply kS | apply kN | apply kD | apply kA)) hk (.inl rfl)); replace HB := Aside0.mk (hb); replace HI0 := Aside0.mk (hi); (try clear hb2); (try clear hb hk hi)) | (go_at_call 29; (with_reducible refine (spec_l1Cur_pick.calls g s0_0 t322 t323 (a2.size : Int) t324 t325 t326 w0 _ ?side1 ?side2 A10.out).mono ?_); (case side1 => repeat (first | exact HI0.out | apply iA | apply iN | apply iD | apply i1 | apply i2)); (case side2 => repeat (first | exact HB.out | apply bA | apply bN | apply bD | refine below_set ?_ (iG HI0.out))); rintro e w37 ⟨rfl, hi, hb, hk⟩; replace HK := Aside0.mk (KeepBut.trans (by repeat (first | exact HK.out | apply kS | apply kN | apply kD | apply kA)) hk (.inl rfl)); replace HB := Aside0.mk (hb); replace HI0 := Aside0.mk (hi); (try clear hb2); (try clear hb hk hi); have p13 : 0 ≤ (t324 : Int) := of_decide_eq_true (by assumption); have q13 : t324 < (a2.size : Int) := of_decide_eq_true (by assumption); have hx13 := bt_at a2 t324; replace p13 := eq_true p13; replace q13 := eq_true q13) | ((with_reducible refine gate_dst (N := 32) rfl ?_); (try (refine gate_guard (by rfl) ?_; dsimp only)); refine Kd.R_lit (Kd.int .u8) _ 5 ?hg (N := 32) ?hd (xs := ([bt a2 t324] : List Int)) (inner := [.int .u8 (bt a2 t324)]) (ok := fun _ => True) (okp := fun _ => True) ?hr ?hp (fun _ hk => hk) trivial (Below.refl _ _) (Nat.le_refl _) (by simp) ?_; (case hd => rfl); (case hg => rfl); (case hr => first | (go_simp; done) | (go_simp; rfl)); (case hp => exact (Reps.one (show Kd.M (Kd.int .u8) _ _ _ (bt a2 t324) [.int .u8 (bt a2 t324)] from rfl) (Reps.none _ _))); intro v328 w38 ho39 hb hg_ hnew_; clear hg_ hnew_; (first | rw [← Ny327.out] at ho39 | (simp only [Int.reduceToNat] at ho39; rw [← Ny327.out] at ho39)); have HO329 := Aside0.mk (Kd.R_lower ho39 (keep_size (w := w) (g := g) (row := none) (by repeat (first | exact HK.out | apply kS | apply kN | apply kD | apply kA)))); replace HK := Aside0.mk (KeepBut.trans (by repeat (first | exact HK.out | apply kS | apply kN | apply kD | apply kA)) (KeepBut.of_below hb g none) (.inl rfl)); replace HB := Aside0.mk (below_step (by repeat (first | exact HB.out | apply bA | apply bN | apply bD | refine below_set ?_ (iG HI0.out))) hb); replace HI0 := Aside0.mk (IsS48.below (by repeat (first | exact HI0.out | apply iA | apply iN | apply iD | apply i1 | apply i2)) hb); clear hb ho39; have hcv40 := own_string (P := Try.prog) Try.underlying22 Try.underlying5 Try.underlying9 (Kd.own_of_R HO329.out)) | (go_at_call 29; (with_reducible refine (spec_l1Cur_pick.calls g s0_0 t325 t326 3 t330 t331 t332 w0 _ ?side1 ?side2 A14.out).mono ?_); (case side1 => repeat (first | exact HI0.out | apply iA | apply iN | apply iD | apply i1 | apply i2)); (case side2 => repeat (first | exact HB.out | apply bA | apply bN | apply bD | refine below_set ?_ (iG HI0.out))); rintro e w41 ⟨rfl, hi, hb, hk⟩; replace HO329 := Aside0.mk (Kd.R_mono (Kd.R_keep (IsS48.apart (show IsS48 w0 _ g s0_0 t325 t326 from by repeat (first | exact HI0.out | apply iA | apply iN | apply iD | apply i1 | apply i2)) (by (with_reducible repeat (first | apply rA | apply rN | apply rD)); exact HO329.out) (by decide)) hk (fun _ h => h.2)) (fun _ h => h.1)); replace HK := Aside0.mk (KeepBut.trans (by repeat (first | exact HK.out | apply kS | apply kN | apply kD | apply kA)) hk (.inl rfl)); replace HB := Aside0.mk (hb); replace HI0 := Aside0.mk (hi); (try clear hb2); (try clear hb hk hi)))
                repeat (go_quiet (first | (go_at_call 29; (with_reducible refine (spec_l1Cur_pick.calls g s0_0 x1001_1 x1002_1 (x1_1.size : Int) t321 t322 t323 w0 _ ?side1 ?side2 A9.out).mono ?_); (case side1 => repeat (first | exact HI0.out | apply iA | apply iN | apply iD | apply i1 | apply i2)); (case side2 => repeat (first | exact HB.out | apply bA | apply bN | apply bD | refine below_set ?_ (iG HI0.out))); rintro e w36 ⟨rfl, hi, hb, hk⟩; replace HK := Aside0.mk (KeepBut.trans (by repeat (first | exact HK.out | apply kS | apply kN | apply kD | apply kA)) hk (.inl rfl)); replace HB := Aside0.mk (hb); replace HI0 := Aside0.mk (hi); (try clear hb2); (try clear hb hk hi)) | (go_at_call 29; (with_reducible refine (spec_l1Cur_pick.calls g s0_0 t322 t323 (a2.size : Int) t324 t325 t326 w0 _ ?side1 ?side2 A10.out).mono ?_); (case side1 => repeat (first | exact HI0.out | apply iA | apply iN | apply iD | apply i1 | apply i2)); (case side2 => repeat (first | exact HB.out | apply bA | apply bN | apply bD | refine below_set ?_ (iG HI0.out))); rintro e w37 ⟨rfl, hi, hb, hk⟩; replace HK := Aside0.mk (KeepBut.trans (by repeat (first | exact HK.out | apply kS | apply kN | apply kD | apply kA)) hk (.inl rfl)); replace HB := Aside0.mk (hb); replace HI0 := Aside0.mk (hi); (try clear hb2); (try clear hb hk hi); have p13 : 0 ≤ (t324 : Int) := of_decide_eq_true (by assumption); have q13 : t324 < (a2.size : Int) := of_decide_eq_true (by assumption); have hx13 := bt_at a2 t324; replace p13 := eq_true p13; replace q13 := eq_true q13) | ((with_reducible refine gate_dst (N := 32) rfl ?_); (try (refine gate_guard (by rfl) ?_; dsimp only)); refine Kd.R_lit (Kd.int .u8) _ 5 ?hg (N := 32) ?hd (xs := ([bt a2 t324] : List Int)) (inner := [.int .u8 (bt a2 t324)]) (ok := fun _ => True) (okp := fun _ => True) ?hr ?hp (fun _ hk => hk) trivial (Below.refl _ _) (Nat.le_refl _) (by simp) ?_; (case hd => rfl); (case hg => rfl); (case hr => first | (go_simp; done) | (go_simp; rfl)); (case hp => exact (Reps.one (show Kd.M (Kd.int .u8) _ _ _ (bt a2 t324) [.int .u8 (bt a2 t324)] from rfl) (Reps.none _ _))); intro v328 w38 ho39 hb hg_ hnew_; clear hg_ hnew_; (first | rw [← Ny327.out] at ho39 | (simp only [Int.reduceToNat] at ho39; rw [← Ny327.out] at ho39)); have HO329 := Aside0.mk (Kd.R_lower ho39 (keep_size (w := w) (g := g) (row := none) (by repeat (first | exact HK.out | apply kS | apply kN | apply kD | apply kA)))); replace HK := Aside0.mk (KeepBut.trans (by repeat (first | exact HK.out | apply kS | apply kN | apply kD | apply kA)) (KeepBut.of_below hb g none) (.inl rfl)); replace HB := Aside0.mk (below_step (by repeat (first | exact HB.out | apply bA | apply bN | apply bD | refine below_set ?_ (iG HI0.out))) hb); replace HI0 := Aside0.mk (IsS48.below (by repeat (first | exact HI0.out | apply iA | apply iN | apply iD | apply i1 | apply i2)) hb); clear hb ho39; have hcv40 := own_string (P := Try.prog) Try.underlying22 Try.underlying5 Try.underlying9 (Kd.own_of_R HO329.out)) | (go_at_call 29; (with_reducible refine (spec_l1Cur_pick.calls g s0_0 t325 t326 3 t330 t331 t332 w0 _ ?side1 ?side2 A14.out).mono ?_); (case side1 => repeat (first | exact HI0.out | apply iA | apply iN | apply iD | apply i1 | apply i2)); (case side2 => repeat (first | exact HB.out | apply bA | apply bN | apply bD | refine below_set ?_ (iG HI0.out))); rintro e w41 ⟨rfl, hi, hb, hk⟩; replace HO329 := Aside0.mk (Kd.R_mono (Kd.R_keep (IsS48.apart (show IsS48 w0 _ g s0_0 t325 t326 from by repeat (first | exact HI0.out | apply iA | apply iN | apply iD | apply i1 | apply i2)) (by (with_reducible repeat (first | apply rA | apply rN | apply rD)); exact HO329.out) (by decide)) hk (fun _ h => h.2)) (fun _ h => h.1)); replace HK := Aside0.mk (KeepBut.trans (by repeat (first | exact HK.out | apply kS | apply kN | apply kD | apply kA)) hk (.inl rfl)); replace HB := Aside0.mk (hb); replace HI0 := Aside0.mk (hi); (try clear hb2); (try clear hb hk hi))); try go_wp2_with (first | (go_at_call 29; (with_reducible refine (spec_l1Cur_pick.calls g s0_0 x1001_1 x1002_1 (x1_1.size : Int) t321 t322 t323 w0 _ ?side1 ?side2 A9.out).mono ?_); (case side1 => repeat (first | exact HI0.out | apply iA | apply iN | apply iD | apply i1 | apply i2)); (case side2 => repeat (first | exact HB.out | apply bA | apply bN | apply bD | refine below_set ?_ (iG HI0.out))); rintro e w36 ⟨rfl, hi, hb, hk⟩; replace HK := Aside0.mk (KeepBut.trans (by repeat (first | exact HK.out | apply kS | apply kN | apply kD | apply kA)) hk (.inl rfl)); replace HB := Aside0.mk (hb); replace HI0 := Aside0.mk (hi); (try clear hb2); (try clear hb hk hi)) | (go_at_call 29; (with_reducible refine (spec_l1Cur_pick.calls g s0_0 t322 t323 (a2.size : Int) t324 t325 t326 w0 _ ?side1 ?side2 A10.out).mono ?_); (case side1 => repeat (first | exact HI0.out | apply iA | apply iN | apply iD | apply i1 | apply i2)); (case side2 => repeat (first | exact HB.out | apply bA | apply bN | apply bD | refine below_set ?_ (iG HI0.out))); rintro e w37 ⟨rfl, hi, hb, hk⟩; replace HK := Aside0.mk (KeepBut.trans (by repeat (first | exact HK.out | apply kS | apply kN | apply kD | apply kA)) hk (.inl rfl)); replace HB := Aside0.mk (hb); replace HI0 := Aside0.mk (hi); (try clear hb2); (try clear hb hk hi); have p13 : 0 ≤ (t324 : Int) := of_decide_eq_true (by assumption); have q13 : t324 < (a2.size : Int) := of_decide_eq_true (by assumption); have hx13 := bt_at a2 t324; replace p13 := eq_true p13; replace q13 := eq_true q13) | ((with_reducible refine gate_dst (N := 32) rfl ?_); (try (refine gate_guard (by rfl) ?_; dsimp only)); refine Kd.R_lit (Kd.int .u8) _ 5 ?hg (N := 32) ?hd (xs := ([bt a2 t324] : List Int)) (inner := [.int .u8 (bt a2 t324)]) (ok := fun _ => True) (okp := fun _ => True) ?hr ?hp (fun _ hk => hk) trivial (Below.refl _ _) (Nat.le_refl _) (by simp) ?_; (case hd => rfl); (case hg => rfl); (case hr => first | (go_simp; done) | (go_simp; rfl)); (case hp => exact (Reps.one (show Kd.M (Kd.int .u8) _ _ _ (bt a2 t324) [.int .u8 (bt a2 t324)] from rfl) (Reps.none _ _))); intro v328 w38 ho39 hb hg_ hnew_; clear hg_ hnew_; (first | rw [← Ny327.out] at ho39 | (simp only [Int.reduceToNat] at ho39; rw [← Ny327.out] at ho39)); have HO329 := Aside0.mk (Kd.R_lower ho39 (keep_size (w := w) (g := g) (row := none) (by repeat (first | exact HK.out | apply kS | apply kN | apply kD | apply kA)))); replace HK := Aside0.mk (KeepBut.trans (by repeat (first | exact HK.out | apply kS | apply kN | apply kD | apply kA)) (KeepBut.of_below hb g none) (.inl rfl)); replace HB := Aside0.mk (below_step (by repeat (first | exact HB.out | apply bA | apply bN | apply bD | refine below_set ?_ (iG HI0.out))) hb); replace HI0 := Aside0.mk (IsS48.below (by repeat (first | exact HI0.out | apply iA | apply iN | apply iD | apply i1 | apply i2)) hb); clear hb ho39; have hcv40 := own_string (P := Try.prog) Try.underlying22 Try.underlying5 Try.underlying9 (Kd.own_of_R HO329.out)) | (go_at_call 29; (with_reducible refine (spec_l1Cur_pick.calls g s0_0 t325 t326 3 t330 t331 t332 w0 _ ?side1 ?side2 A14.out).mono ?_); (case side1 => repeat (first | exact HI0.out | apply iA | apply iN | apply iD | apply i1 | apply i2)); (case side2 => repeat (first | exact HB.out | apply bA | apply bN | apply bD | refine below_set ?_ (iG HI0.out))); rintro e w41 ⟨rfl, hi, hb, hk⟩; replace HO329 := Aside0.mk (Kd.R_mono (Kd.R_keep (IsS48.apart (show IsS48 w0 _ g s0_0 t325 t326 from by repeat (first | exact HI0.out | apply iA | apply iN | apply iD | apply i1 | apply i2)) (by (with_reducible repeat (first | apply rA | apply rN | apply rD)); exact HO329.out) (by decide)) hk (fun _ h => h.2)) (fun _ h => h.1)); replace HK := Aside0.mk (KeepBut.trans (by repeat (first | exact HK.out | apply kS | apply kN | apply kD | apply kA)) hk (.inl rfl)); replace HB := Aside0.mk (hb); replace HI0 := Aside0.mk (hi); (try clear hb2); (try clear hb hk hi))))
                go_roundg kj5
                case measure => have := HK1.out; have := HJ5.out; omega
                case rel => exact ⟨(((x1_1.extract 0 (t321 : Int).toNat) ++ (strOfNums y327)) ++ (x1_1.extract ((ji32) : Int).toNat x1_1.size)), (wrap64 (x7_1 - 1)), (t331), (t332), (by first | rfl | (simp; done) | (simp only [← hji32] <;> (first | rfl | simp)) | (simp [*]; done)), (by first | rfl | (simp; done) | (simp [*]; done)), H', ⟨by have := HK1.out; have := HJ5.out; omega⟩, ⟨by repeat (first | exact HI0.out | apply iA | apply iN | apply iD | apply i1 | apply i2)⟩, ⟨by repeat (first | exact HK.out | apply kS | apply kN | apply kD | apply kA)⟩, ⟨by repeat (first | exact HB.out | apply bA | apply bN | apply bD | refine below_set ?_ (iG HI0.out))⟩⟩
               ·rw [if_neg c35] at H
                exact absurd H (by simp)
              ·rw [if_neg c34] at H
               exact absurd H (by simp)
             ·rw [if_neg c33] at H
              exact absurd H (by simp)
            ·rw [if_neg c31] at H
             exact absurd H (by simp)
           ·rw [if_neg c30] at H
            exact absurd H (by simp)
          ·rw [if_neg c29] at H
           exact absurd H (by simp)
         ·rw [if_neg c28] at H
          have c28b0 : (t330 == 1) = false := beq_eq_false_iff_ne.mpr c28
          have c28b1 : (t330 != 1) = true := bne_iff_ne.mpr c28
          by_cases c42 : 0 ≤ t321
          ·rw [if_pos c42] at H
           have c42b0 := eq_true c42
           have c42b1 : decide (0 ≤ t321) = true := decide_eq_true c42
           clear c42
           by_cases c43 : t321 ≤ (x1_1.size : Int)
           ·rw [if_pos c43] at H
            have c43b0 := eq_true c43
            have c43b1 : decide (t321 ≤ (x1_1.size : Int)) = true := decide_eq_true c43
            clear c43
            obtain ⟨ji44, hji44⟩ : ∃ j_ : Int, (wrap64 (t321 + 1)) = j_ := ⟨_, rfl⟩
            replace H : (if 0 ≤ (ji44) then (if (ji44) ≤ (x1_1.size : Int) then (if (x1_1.extract 0 (t321 : Int).toNat).size + (x1_1.extract ((ji44) : Int).toNat x1_1.size).size ≤ 9223372036854775807 then (spec_l1Cur_spoilt.l0 kj5 ((x1_1.extract 0 (t321 : Int).toNat) ++ (x1_1.extract ((ji44) : Int).toNat x1_1.size)) a2 (wrap64 (x7_1 - 1)) s0_0 t331 t332) else (none)) else (none)) else (none)) = some (r1, r2, r3) := by first | (rw [hji44] at H; exact H) | (simp only [hji44] at H ⊢; exact H)
            (try rw [hji44] at A9)
            (try rw [hji44] at A10)
            (try rw [hji44] at A14)
            have hji44w : (IntKind.i64.wrap (t321 + 1)) = ji44 := (i64_w _).trans hji44
            by_cases c45 : 0 ≤ (ji44)
            ·rw [if_pos c45] at H
             have c45b0 := eq_true c45
             have c45b1 : decide (0 ≤ (ji44)) = true := decide_eq_true c45
             clear c45
             by_cases c46 : (ji44) ≤ (x1_1.size : Int)
             ·rw [if_pos c46] at H
              have c46b0 := eq_true c46
              have c46b1 : decide ((ji44) ≤ (x1_1.size : Int)) = true := decide_eq_true c46
              clear c46
              by_cases c47 : (x1_1.extract 0 (t321 : Int).toNat).size + (x1_1.extract ((ji44) : Int).toNat x1_1.size).size ≤ 9223372036854775807
              ·rw [if_pos c47] at H
               have c47b0 := eq_true c47
               have c47b1 : decide ((x1_1.extract 0 (t321 : Int).toNat).size + (x1_1.extract ((ji44) : Int).toNat x1_1.size).size ≤ 9223372036854775807) = true := decide_eq_true c47
               try have c47b2 : (9223372036854775807 < (x1_1.extract 0 (t321 : Int).toNat).size + (x1_1.extract ((ji44) : Int).toNat x1_1.size).size) = False := eq_false (Nat.not_lt.2 c47)
               have H' := Aside0.mk H
               clear H
               go_wp2_with (first | (go_at_call 29; (with_reducible refine (spec_l1Cur_pick.calls g s0_0 x1001_1 x1002_1 (x1_1.size : Int) t321 t322 t323 w0 _ ?side1 ?side2 A9.out).mono ?_); (case side1 => repeat (first | exact HI0.out | apply iA | apply iN | apply iD | apply i1 | apply i2)); (case side2 => repeat (first | exact HB.out | apply bA | apply bN | apply bD | refine below_set ?_ (iG HI0.out))); rintro e w48 ⟨rfl, hi, hb, hk⟩; replace HK := Aside0.mk (KeepBut.trans (by repeat (first | exact HK.out | apply kS | apply kN | apply kD | apply kA)) hk (.inl rfl)); replace HB := Aside0.mk (hb); replace HI0 := Aside0.mk (hi); (try clear hb2); (try clear hb hk hi)) | (go_at_call 29; (with_reducible refine (spec_l1Cur_pick.calls g s0_0 t322 t323 (a2.size : Int) t324 t325 t326 w0 _ ?side1 ?side2 A10.out).mono ?_); (case side1 => repeat (first | exact HI0.out | apply iA | apply iN | apply iD | apply i1 | apply i2)); (case side2 => repeat (first | exact HB.out | apply bA | apply bN | apply bD | refine below_set ?_ (iG HI0.out))); rintro e w49 ⟨rfl, hi, hb, hk⟩; replace HK := Aside0.mk (KeepBut.trans (by repeat (first | exact HK.out | apply kS | apply kN | apply kD | apply kA)) hk (.inl rfl)); replace HB := Aside0.mk (hb); replace HI0 := Aside0.mk (hi); (try clear hb2); (try clear hb hk hi); have p13 : 0 ≤ (t324 : Int) := of_decide_eq_true (by assumption); have q13 : t324 < (a2.size : Int) := of_decide_eq_true (by assumption); have hx13 := bt_at a2 t324; replace p13 := eq_true p13; replace q13 := eq_true q13) | ((with_reducible refine gate_dst (N := 32) rfl ?_); (try (refine gate_guard (by rfl) ?_; dsimp only)); refine Kd.R_lit (Kd.int .u8) _ 5 ?hg (N := 32) ?hd (xs := ([bt a2 t324] : List Int)) (inner := [.int .u8 (bt a2 t324)]) (ok := fun _ => True) (okp := fun _ => True) ?hr ?hp (fun _ hk => hk) trivial (Below.refl _ _) (Nat.le_refl _) (by simp) ?_; (case hd => rfl); (case hg => rfl); (case hr => first | (go_simp; done) | (go_simp; rfl)); (case hp => exact (Reps.one (show Kd.M (Kd.int .u8) _ _ _ (bt a2 t324) [.int .u8 (bt a2 t324)] from rfl) (Reps.none _ _))); intro v328 w50 ho51 hb hg_ hnew_; clear hg_ hnew_; (first | rw [← Ny327.out] at ho51 | (simp only [Int.reduceToNat] at ho51; rw [← Ny327.out] at ho51)); have HO329 := Aside0.mk (Kd.R_lower ho51 (keep_size (w := w) (g := g) (row := none) (by repeat (first | exact HK.out | apply kS | apply kN | apply kD | apply kA)))); replace HK := Aside0.mk (KeepBut.trans (by repeat (first | exact HK.out | apply kS | apply kN | apply kD | apply kA)) (KeepBut.of_below hb g none) (.inl rfl)); replace HB := Aside0.mk (below_step (by repeat (first | exact HB.out | apply bA | apply bN | apply bD | refine below_set ?_ (iG HI0.out))) hb); replace HI0 := Aside0.mk (IsS48.below (by repeat (first | exact HI0.out | apply iA | apply iN | apply iD | apply i1 | apply i2)) hb); clear hb ho51; have hcv52 := own_string (P := Try.prog) Try.underlying22 Try.underlying5 Try.underlying9 (Kd.own_of_R HO329.out)) | (go_at_call 29; (with_reducible refine (spec_l1Cur_pick.calls g s0_0 t325 t326 3 t330 t331 t332 w0 _ ?side1 ?side2 A14.out).mono ?_); (case side1 => repeat (first | exact HI0.out | apply iA | apply iN | apply iD | apply i1 | apply i2)); (case side2 => repeat (first | exact HB.out | apply bA | apply bN | apply bD | refine below_set ?_ (iG HI0.out))); rintro e w53 ⟨rfl, hi, hb, hk⟩; replace HO329 := Aside0.mk (Kd.R_mono (Kd.R_keep (IsS48.apart (show IsS48 w0 _ g s0_0 t325 t326 from by repeat (first | exact HI0.out | apply iA | apply iN | apply iD | apply i1 | apply i2)) (by (with_reducible repeat (first | apply rA | apply rN | apply rD)); exact HO329.out) (by decide)) hk (fun _ h => h.2)) (fun _ h => h.1)); replace HK := Aside0.mk (KeepBut.trans (by repeat (first | exact HK.out | apply kS | apply kN | apply kD | apply kA)) hk (.inl rfl)); replace HB := Aside0.mk (hb); replace HI0 := Aside0.mk (hi); (try clear hb2); (try clear hb hk hi)))
               repeat (go_quiet (first | (go_at_call 29; (with_reducible refine (spec_l1Cur_pick.calls g s0_0 x1001_1 x1002_1 (x1_1.size : Int) t321 t322 t323 w0 _ ?side1 ?side2 A9.out).mono ?_); (case side1 => repeat (first | exact HI0.out | apply iA | apply iN | apply iD | apply i1 | apply i2)); (case side2 => repeat (first | exact HB.out | apply bA | apply bN | apply bD | refine below_set ?_ (iG HI0.out))); rintro e w48 ⟨rfl, hi, hb, hk⟩; replace HK := Aside0.mk (KeepBut.trans (by repeat (first | exact HK.out | apply kS | apply kN | apply kD | apply kA)) hk (.inl rfl)); replace HB := Aside0.mk (hb); replace HI0 := Aside0.mk (hi); (try clear hb2); (try clear hb hk hi)) | (go_at_call 29; (with_reducible refine (spec_l1Cur_pick.calls g s0_0 t322 t323 (a2.size : Int) t324 t325 t326 w0 _ ?side1 ?side2 A10.out).mono ?_); (case side1 => repeat (first | exact HI0.out | apply iA | apply iN | apply iD | apply i1 | apply i2)); (case side2 => repeat (first | exact HB.out | apply bA | apply bN | apply bD | refine below_set ?_ (iG HI0.out))); rintro e w49 ⟨rfl, hi, hb, hk⟩; replace HK := Aside0.mk (KeepBut.trans (by repeat (first | exact HK.out | apply kS | apply kN | apply kD | apply kA)) hk (.inl rfl)); replace HB := Aside0.mk (hb); replace HI0 := Aside0.mk (hi); (try clear hb2); (try clear hb hk hi); have p13 : 0 ≤ (t324 : Int) := of_decide_eq_true (by assumption); have q13 : t324 < (a2.size : Int) := of_decide_eq_true (by assumption); have hx13 := bt_at a2 t324; replace p13 := eq_true p13; replace q13 := eq_true q13) | ((with_reducible refine gate_dst (N := 32) rfl ?_); (try (refine gate_guard (by rfl) ?_; dsimp only)); refine Kd.R_lit (Kd.int .u8) _ 5 ?hg (N := 32) ?hd (xs := ([bt a2 t324] : List Int)) (inner := [.int .u8 (bt a2 t324)]) (ok := fun _ => True) (okp := fun _ => True) ?hr ?hp (fun _ hk => hk) trivial (Below.refl _ _) (Nat.le_refl _) (by simp) ?_; (case hd => rfl); (case hg => rfl); (case hr => first | (go_simp; done) | (go_simp; rfl)); (case hp => exact (Reps.one (show Kd.M (Kd.int .u8) _ _ _ (bt a2 t324) [.int .u8 (bt a2 t324)] from rfl) (Reps.none _ _))); intro v328 w50 ho51 hb hg_ hnew_; clear hg_ hnew_; (first | rw [← Ny327.out] at ho51 | (simp only [Int.reduceToNat] at ho51; rw [← Ny327.out] at ho51)); have HO329 := Aside0.mk (Kd.R_lower ho51 (keep_size (w := w) (g := g) (row := none) (by repeat (first | exact HK.out | apply kS | apply kN | apply kD | apply kA)))); replace HK := Aside0.mk (KeepBut.trans (by repeat (first | exact HK.out | apply kS | apply kN | apply kD | apply kA)) (KeepBut.of_below hb g none) (.inl rfl)); replace HB := Aside0.mk (below_step (by repeat (first | exact HB.out | apply bA | apply bN | apply bD | refine below_set ?_ (iG HI0.out))) hb); replace HI0 := Aside0.mk (IsS48.below (by repeat (first | exact HI0.out | apply iA | apply iN | apply iD | apply i1 | apply i2)) hb); clear hb ho51; have hcv52 := own_string (P := Try.prog) Try.underlying22 Try.underlying5 Try.underlying9 (Kd.own_of_R HO329.out)) | (go_at_call 29; (with_reducible refine (spec_l1Cur_pick.calls g s0_0 t325 t326 3 t330 t331 t332 w0 _ ?side1 ?side2 A14.out).mono ?_); (case side1 => repeat (first | exact HI0.out | apply iA | apply iN | apply iD | apply i1 | apply i2)); (case side2 => repeat (first | exact HB.out | apply bA | apply bN | apply bD | refine below_set ?_ (iG HI0.out))); rintro e w53 ⟨rfl, hi, hb, hk⟩; replace HO329 := Aside0.mk (Kd.R_mono (Kd.R_keep (IsS48.apart (show IsS48 w0 _ g s0_0 t325 t326 from by repeat (first | exact HI0.out | apply iA | apply iN | apply iD | apply i1 | apply i2)) (by (with_reducible repeat (first | apply rA | apply rN | apply rD)); exact HO329.out) (by decide)) hk (fun _ h => h.2)) (fun _ h => h.1)); replace HK := Aside0.mk (KeepBut.trans (by repeat (first | exact HK.out | apply kS | apply kN | apply kD | apply kA)) hk (.inl rfl)); replace HB := Aside0.mk (hb); replace HI0 := Aside0.mk (hi); (try clear hb2); (try clear hb hk hi))); try go_wp2_with (first | (go_at_call 29; (with_reducible refine (spec_l1Cur_pick.calls g s0_0 x1001_1 x1002_1 (x1_1.size : Int) t321 t322 t323 w0 _ ?side1 ?side2 A9.out).mono ?_); (case side1 => repeat (first | exact HI0.out | apply iA | apply iN | apply iD | apply i1 | apply i2)); (case side2 => repeat (first | exact HB.out | apply bA | apply bN | apply bD | refine below_set ?_ (iG HI0.out))); rintro e w48 ⟨rfl, hi, hb, hk⟩; replace HK := Aside0.mk (KeepBut.trans (by repeat (first | exact HK.out | apply kS | apply kN | apply kD | apply kA)) hk (.inl rfl)); replace HB := Aside0.mk (hb); replace HI0 := Aside0.mk (hi); (try clear hb2); (try clear hb hk hi)) | (go_at_call 29; (with_reducible refine (spec_l1Cur_pick.calls g s0_0 t322 t323 (a2.size : Int) t324 t325 t326 w0 _ ?side1 ?side2 A10.out).mono ?_); (case side1 => repeat (first | exact HI0.out | apply iA | apply iN | apply iD | apply i1 | apply i2)); (case side2 => repeat (first | exact HB.out | apply bA | apply bN | apply bD | refine below_set ?_ (iG HI0.out))); rintro e w49 ⟨rfl, hi, hb, hk⟩; replace HK := Aside0.mk (KeepBut.trans (by repeat (first | exact HK.out | apply kS | apply kN | apply kD | apply kA)) hk (.inl rfl)); replace HB := Aside0.mk (hb); replace HI0 := Aside0.mk (hi); (try clear hb2); (try clear hb hk hi); have p13 : 0 ≤ (t324 : Int) := of_decide_eq_true (by assumption); have q13 : t324 < (a2.size : Int) := of_decide_eq_true (by assumption); have hx13 := bt_at a2 t324; replace p13 := eq_true p13; replace q13 := eq_true q13) | ((with_reducible refine gate_dst (N := 32) rfl ?_); (try (refine gate_guard (by rfl) ?_; dsimp only)); refine Kd.R_lit (Kd.int .u8) _ 5 ?hg (N := 32) ?hd (xs := ([bt a2 t324] : List Int)) (inner := [.int .u8 (bt a2 t324)]) (ok := fun _ => True) (okp := fun _ => True) ?hr ?hp (fun _ hk => hk) trivial (Below.refl _ _) (Nat.le_refl _) (by simp) ?_; (case hd => rfl); (case hg => rfl); (case hr => first | (go_simp; done) | (go_simp; rfl)); (case hp => exact (Reps.one (show Kd.M (Kd.int .u8) _ _ _ (bt a2 t324) [.int .u8 (bt a2 t324)] from rfl) (Reps.none _ _))); intro v328 w50 ho51 hb hg_ hnew_; clear hg_ hnew_; (first | rw [← Ny327.out] at ho51 | (simp only [Int.reduceToNat] at ho51; rw [← Ny327.out] at ho51)); have HO329 := Aside0.mk (Kd.R_lower ho51 (keep_size (w := w) (g := g) (row := none) (by repeat (first | exact HK.out | apply kS | apply kN | apply kD | apply kA)))); replace HK := Aside0.mk (KeepBut.trans (by repeat (first | exact HK.out | apply kS | apply kN | apply kD | apply kA)) (KeepBut.of_below hb g none) (.inl rfl)); replace HB := Aside0.mk (below_step (by repeat (first | exact HB.out | apply bA | apply bN | apply bD | refine below_set ?_ (iG HI0.out))) hb); replace HI0 := Aside0.mk (IsS48.below (by repeat (first | exact HI0.out | apply iA | apply iN | apply iD | apply i1 | apply i2)) hb); clear hb ho51; have hcv52 := own_string (P := Try.prog) Try.underlying22 Try.underlying5 Try.underlying9 (Kd.own_of_R HO329.out)) | (go_at_call 29; (with_reducible refine (spec_l1Cur_pick.calls g s0_0 t325 t326 3 t330 t331 t332 w0 _ ?side1 ?side2 A14.out).mono ?_); (case side1 => repeat (first | exact HI0.out | apply iA | apply iN | apply iD | apply i1 | apply i2)); (case side2 => repeat (first | exact HB.out | apply bA | apply bN | apply bD | refine below_set ?_ (iG HI0.out))); rintro e w53 ⟨rfl, hi, hb, hk⟩; replace HO329 := Aside0.mk (Kd.R_mono (Kd.R_keep (IsS48.apart (show IsS48 w0 _ g s0_0 t325 t326 from by repeat (first | exact HI0.out | apply iA | apply iN | apply iD | apply i1 | apply i2)) (by (with_reducible repeat (first | apply rA | apply rN | apply rD)); exact HO329.out) (by decide)) hk (fun _ h => h.2)) (fun _ h => h.1)); replace HK := Aside0.mk (KeepBut.trans (by repeat (first | exact HK.out | apply kS | apply kN | apply kD | apply kA)) hk (.inl rfl)); replace HB := Aside0.mk (hb); replace HI0 := Aside0.mk (hi); (try clear hb2); (try clear hb hk hi))))
               go_roundg kj5
               case measure => have := HK1.out; have := HJ5.out; omega
               case rel => exact ⟨((x1_1.extract 0 (t321 : Int).toNat) ++ (x1_1.extract ((ji44) : Int).toNat x1_1.size)), (wrap64 (x7_1 - 1)), (t331), (t332), (by first | rfl | (simp; done) | (simp only [← hji44] <;> (first | rfl | simp)) | (simp [*]; done)), (by first | rfl | (simp; done) | (simp [*]; done)), H', ⟨by have := HK1.out; have := HJ5.out; omega⟩, ⟨by repeat (first | exact HI0.out | apply iA | apply iN | apply iD | apply i1 | apply i2)⟩, ⟨by repeat (first | exact HK.out | apply kS | apply kN | apply kD | apply kA)⟩, ⟨by repeat (first | exact HB.out | apply bA | apply bN | apply bD | refine below_set ?_ (iG HI0.out))⟩⟩
              ·rw [if_neg c47] at H
               exact absurd H (by simp)
             ·rw [if_neg c46] at H
              exact absurd H (by simp)
            ·rw [if_neg c45] at H
             exact absurd H (by simp)
           ·rw [if_neg c43] at H
            exact absurd H (by simp)
          ·rw [if_neg c42] at H
           exact absurd H (by simp)
       ·rw [if_neg c12] at H
        exact absurd H (by simp)
      ·rw [if_neg c11] at H
       exact absurd H (by simp)
     ·replace c8 := Bool.eq_false_iff.mpr c8
      subst c8
      have H1 : (some (x1_1, x1001_1, x1002_1)) = some (r1, r2, r3) := by rw [if_neg (show ¬ (false = true) by decide)] at H; exact H
      clear H
      have H := H1
      clear H1
      simp only [Option.some.injEq, Prod.mk.injEq] at H
      obtain ⟨rfl, rfl, rfl⟩ := H
      go_wp2
      repeat (go_quiet (fail); try go_wp2)
      go_ret
      exact ⟨by first | rfl | (simp [*, errW_none, errW_some] <;> rfl), by repeat (first | exact HI0.out | apply iA | apply iN | apply iD | apply i1 | apply i2), by repeat (first | exact HB.out | apply bA | apply bN | apply bD | refine below_set ?_ (iG HI0.out)), by repeat (first | exact HK.out | apply kS | apply kN | apply kD | apply kA)⟩

/-! ### spec_DrawParseSystem: function 17 (by hand) -/
/-! ### spec_DrawParseSystem_m: function 17 -/
def spec_DrawParseSystem_m.f (k : Nat) (s0_0 : List Int) (s0_1 : Int) (s0_2 : Int) : Option (ByteArray × Int × Int) := (spec_l1Cur_pick.f s0_0 s0_1 s0_2 7).bind fun bt333 => ((spec_l1Cur_sure.f k s0_0 bt333.2.1 bt333.2.2 bt333.1).bind fun bt336 => ((spec_ahText.f k bt336.1).bind fun t341 => ((spec_l1Cur_one.f s0_0 bt336.2.1 bt336.2.2 3).bind fun bt342 => (if bt342.1 = true then ((spec_l1Cur_spoilt.f k s0_0 bt342.2.1 bt342.2.2 t341 (⟨#[40, 41, 91, 32]⟩ : ByteArray)).bind fun bt345 => (some (bt345.1, bt345.2.1, bt345.2.2))) else (some (t341, bt342.2.1, bt342.2.2))))))
theorem spec_DrawParseSystem_m.mono : ∀ a0 a1 a2 k, LeO (spec_DrawParseSystem_m.f k a0 a1 a2) (spec_DrawParseSystem_m.f (k + 1) a0 a1 a2) := by
 intro a0 a1 a2 k
 unfold spec_DrawParseSystem_m.f
 repeat' first
   | (with_reducible exact spec_ahText.mono _ _)
   | (with_reducible exact spec_l1Cur_spoilt.mono _ _ _ _ _ _)
   | (with_reducible exact spec_l1Cur_sure.mono _ _ _ _ _)
   | (with_reducible exact LeO.refl _)
   | (with_reducible exact LeO.none _)
   | (with_reducible refine LeO.ite ?_ ?_)
   | (with_reducible refine LeO.bind ?_ (fun _ => ?_))
   | exact LeO.none _
   | refine LeO.ite ?_ ?_
   | refine LeO.bind ?_ (fun _ => ?_)
def spec_DrawParseSystem.f (k : Nat) (l0 : List Int) : Option (ByteArray) := (spec_DrawParseSystem_m.f k l0 0 0).bind fun t => some (t.1)
theorem spec_DrawParseSystem.mono : ∀ a0 k, LeO (spec_DrawParseSystem.f k a0) (spec_DrawParseSystem.f (k + 1) a0) := fun a0 k => LeO.bind (spec_DrawParseSystem_m.mono a0 0 0 k) (fun _ => LeO.refl _)
theorem spec_DrawParseSystem.calls (k : Nat) (A0 : Option Addr) (c0 : Nat) (s0_0 : List Int) (z_r1 : ByteArray) (w : World) (hr0 : Kd.C (Kd.int .u8) w A0 s0_0.length s0_0) (hc0 : s0_0.length ≤ c0) (h : spec_DrawParseSystem.f k s0_0 = some (z_r1)) :
  Calls Try.prog 17 #[.slice A0 s0_0.length c0] w fun e w' => e = .returned (.string z_r1) ∧ Below w.heap.size w w' := by
 unfold spec_DrawParseSystem.f at h
 obtain ⟨⟨r1, r2, r3⟩, hm_, hx⟩ := Option.bind_eq_some_iff.mp h
 clear h
 simp only [Option.some.injEq, Prod.mk.injEq] at hx
 obtain rfl := hx
 have h := hm_
 clear hm_
 go_enter Try.func17, Try.ntmps17
 go_upto_region 2 with (fail)
 have HBX : Below w.heap.size w (w.alloc (.cells #[.slice A0 s0_0.length c0, .int .i64 0, .int .u64 0] 48)) := below_alloc (Below.refl _ _) _
 have HIX : IsS48 w (w.alloc (.cells #[.slice A0 s0_0.length c0, .int .i64 0, .int .u64 0] 48)) w.heap.size s0_0 0 0 := ⟨A0, c0, (by first | (simp [World.alloc]; done) | exact Array.getElem?_push_size), Nat.le_refl _, hr0⟩
 have HSX : w.heap.size + 1 ≤ (w.alloc (.cells #[.slice A0 s0_0.length c0, .int .i64 0, .int .u64 0] 48)).heap.size := by simp
 generalize (w.alloc (.cells #[.slice A0 s0_0.length c0, .int .i64 0, .int .u64 0] 48)) = wb at HBX HIX HSX ⊢
 have HI0 := Aside0.mk HIX
 have HK := Aside0.mk (KeepBut.refl wb w.heap.size none)
 have HL := Aside0.mk HBX.size
 have HW0 := Aside0.mk HBX.size
 have HBXS : Aside0 (w.heap.size ≤ wb.heap.size) := ⟨HBX.size⟩
 have HB := Aside0.mk HBX
 clear HBX HIX
 have H : ((spec_l1Cur_pick.f s0_0 0 0 7).bind fun bt333 => ((spec_l1Cur_sure.f k s0_0 bt333.2.1 bt333.2.2 bt333.1).bind fun bt336 => ((spec_ahText.f k bt336.1).bind fun t341 => ((spec_l1Cur_one.f s0_0 bt336.2.1 bt336.2.2 3).bind fun bt342 => (if bt342.1 = true then ((spec_l1Cur_spoilt.f k s0_0 bt342.2.1 bt342.2.2 t341 (⟨#[40, 41, 91, 32]⟩ : ByteArray)).bind fun bt345 => (some (bt345.1, bt345.2.1, bt345.2.2))) else (some (t341, bt342.2.1, bt342.2.2))))))) = some (r1, r2, r3) := h
 clear h
 replace H := Option.bind_eq_some_iff.mp H
 obtain ⟨⟨t333, t334, t335⟩, A20, H⟩ := H
 replace H : ((spec_l1Cur_sure.f k s0_0 t334 t335 t333).bind fun bt336 => ((spec_ahText.f k bt336.1).bind fun t341 => ((spec_l1Cur_one.f s0_0 bt336.2.1 bt336.2.2 3).bind fun bt342 => (if bt342.1 = true then ((spec_l1Cur_spoilt.f k s0_0 bt342.2.1 bt342.2.2 t341 (⟨#[40, 41, 91, 32]⟩ : ByteArray)).bind fun bt345 => (some (bt345.1, bt345.2.1, bt345.2.2))) else (some (t341, bt342.2.1, bt342.2.2)))))) = some (r1, r2, r3) := H
 have A2 := Aside0.mk A20
 clear A20
 replace H := Option.bind_eq_some_iff.mp H
 obtain ⟨⟨t336, t339, t340⟩, A30, H⟩ := H
 replace H : ((spec_ahText.f k t336).bind fun t341 => ((spec_l1Cur_one.f s0_0 t339 t340 3).bind fun bt342 => (if bt342.1 = true then ((spec_l1Cur_spoilt.f k s0_0 bt342.2.1 bt342.2.2 t341 (⟨#[40, 41, 91, 32]⟩ : ByteArray)).bind fun bt345 => (some (bt345.1, bt345.2.1, bt345.2.2))) else (some (t341, bt342.2.1, bt342.2.2))))) = some (r1, r2, r3) := H
 have A3 := Aside0.mk A30
 clear A30
 replace H := Option.bind_eq_some_iff.mp H
 obtain ⟨t341, A40, H⟩ := H
 replace H : ((spec_l1Cur_one.f s0_0 t339 t340 3).bind fun bt342 => (if bt342.1 = true then ((spec_l1Cur_spoilt.f k s0_0 bt342.2.1 bt342.2.2 t341 (⟨#[40, 41, 91, 32]⟩ : ByteArray)).bind fun bt345 => (some (bt345.1, bt345.2.1, bt345.2.2))) else (some (t341, bt342.2.1, bt342.2.2)))) = some (r1, r2, r3) := H
 have A4 := Aside0.mk A40
 clear A40
 replace H := Option.bind_eq_some_iff.mp H
 obtain ⟨⟨t342, t343, t344⟩, A50, H⟩ := H
 replace H : (if t342 = true then ((spec_l1Cur_spoilt.f k s0_0 t343 t344 t341 (⟨#[40, 41, 91, 32]⟩ : ByteArray)).bind fun bt345 => (some (bt345.1, bt345.2.1, bt345.2.2))) else (some (t341, t343, t344))) = some (r1, r2, r3) := H
 have A5 := Aside0.mk A50
 clear A50
 by_cases c6 : t342 = true
 ·subst c6
  have H1 : ((spec_l1Cur_spoilt.f k s0_0 t343 t344 t341 (⟨#[40, 41, 91, 32]⟩ : ByteArray)).bind fun bt345 => (some (bt345.1, bt345.2.1, bt345.2.2))) = some (r1, r2, r3) := by rw [if_pos rfl] at H; exact H
  clear H
  have H := H1
  clear H1
  replace H := Option.bind_eq_some_iff.mp H
  obtain ⟨⟨t345, t346, t347⟩, A70, H⟩ := H
  replace H : (some (t345, t346, t347)) = some (r1, r2, r3) := H
  have A7 := Aside0.mk A70
  clear A70
  simp only [Option.some.injEq, Prod.mk.injEq] at H
  obtain ⟨rfl, rfl, rfl⟩ := H
  go_wp2_with (first | ((with_reducible refine gate_callee (f := 29) rfl ?_); refine goesL_ (some 10) rfl rfl Try.func29 (by kernel_rfl) rfl #[.pointer (some ⟨w.heap.size, 0, none⟩), .int .i64 7] rfl (by (try simp only [List.map_toArray, List.map_cons, List.map_nil]); first | done | rfl) ?_; (with_reducible refine (spec_l1Cur_pick.calls w.heap.size s0_0 0 0 7 t333 t334 t335 w _ ?side1 ?side2 A2.out).mono ?_); (case side1 => repeat (first | exact HI0.out | apply iA | apply iN | apply iD | apply i1 | apply i2)); (case side2 => repeat (first | exact HB.out | apply bA | apply bN | apply bD | refine below_set ?_ (iG HI0.out))); rintro e w8 ⟨rfl, hi, hb, hk⟩; refine ⟨_, rfl, ?_⟩; replace HK := Aside0.mk (KeepBut.trans (by repeat (first | exact HK.out | apply kS | apply kN | apply kD | apply kA)) hk (.inl rfl)); replace HB := Aside0.mk (hb); replace HI0 := Aside0.mk (hi); (try clear hb2); (try clear hb hk hi)) | ((with_reducible refine gate_callee (f := 38) rfl ?_); refine goesL_ (some 11) rfl rfl Try.func38 (by kernel_rfl) rfl #[.pointer (some ⟨w.heap.size, 0, none⟩), .int .i64 t333] rfl (by (try simp only [List.map_toArray, List.map_cons, List.map_nil]); first | done | rfl) ?_; (with_reducible refine (spec_l1Cur_sure.calls k w.heap.size s0_0 t334 t335 t333 t336 t339 t340 w _ ?side1 ?side2 A3.out).mono ?_); (case side1 => repeat (first | exact HI0.out | apply iA | apply iN | apply iD | apply i1 | apply i2)); (case side2 => repeat (first | exact HB.out | apply bA | apply bN | apply bD | refine below_set ?_ (iG HI0.out))); rintro e w9 ⟨v337, rfl, ho0, hi, hb, hk⟩; refine ⟨_, rfl, ?_⟩; have HO338 := Aside0.mk (Kd.R_lower ho0 (keep_size (w := wb) (g := w.heap.size) (row := none) (by repeat (first | exact HK.out | apply kS | apply kN | apply kD | apply kA)))); replace HK := Aside0.mk (KeepBut.trans (by repeat (first | exact HK.out | apply kS | apply kN | apply kD | apply kA)) hk (.inl rfl)); replace HB := Aside0.mk (hb); replace HI0 := Aside0.mk (hi); (try clear hb2); (try clear hb hk hi); (try clear ho0); obtain ⟨Ao10, co10, eo10⟩ := Kd.R_slice HO338.out; subst eo10) | ((with_reducible refine gate_callee (f := 37) rfl ?_); refine goesL_ (some 12) rfl rfl Try.func37 (by kernel_rfl) rfl #[.slice Ao10 t336.length co10] rfl (by (try simp only [List.map_toArray, List.map_cons, List.map_nil]); first | done | rfl) ?_; (with_reducible refine (spec_ahText.calls k _ _ t336 t341 _ ?side1 ?side2 A4.out).mono ?_); (case side1 => repeat (first | exact (Kd.R_reads' HO338.out).2.2 | (with_reducible refine Kd.C_alloc ?_ _) | (with_reducible refine Kd.C_drewN ?_ _) | (with_reducible refine Kd.C_drew ?_))); (case side2 => exact (Kd.R_reads' HO338.out).2.1); rintro e w' ⟨rfl, ⟨nd, rfl⟩⟩; refine ⟨_, rfl, ?_⟩) | ((with_reducible refine gate_callee (f := 27) rfl ?_); refine goesL_ (some 14) rfl rfl Try.func27 (by kernel_rfl) rfl #[.pointer (some ⟨w.heap.size, 0, none⟩), .int .i64 3] rfl (by (try simp only [List.map_toArray, List.map_cons, List.map_nil]); first | done | rfl) ?_; (with_reducible refine (spec_l1Cur_one.calls w.heap.size s0_0 t339 t340 3 true t343 t344 w _ ?side1 ?side2 A5.out).mono ?_); (case side1 => repeat (first | exact HI0.out | apply iA | apply iN | apply iD | apply i1 | apply i2)); (case side2 => repeat (first | exact HB.out | apply bA | apply bN | apply bD | refine below_set ?_ (iG HI0.out))); rintro e w11 ⟨rfl, hi, hb, hk⟩; refine ⟨_, rfl, ?_⟩; replace HO338 := Aside0.mk (Kd.R_mono (Kd.R_keep (IsS48.apart (show IsS48 w _ w.heap.size s0_0 t339 t340 from by repeat (first | exact HI0.out | apply iA | apply iN | apply iD | apply i1 | apply i2)) (by (with_reducible repeat (first | apply rA | apply rN | apply rD)); exact HO338.out) (by decide)) hk (fun _ h => h.2)) (fun _ h => h.1)); replace HK := Aside0.mk (KeepBut.trans (by repeat (first | exact HK.out | apply kS | apply kN | apply kD | apply kA)) hk (.inl rfl)); replace HB := Aside0.mk (hb); replace HI0 := Aside0.mk (hi); (try clear hb2); (try clear hb hk hi)) | ((with_reducible refine gate_callee (f := 39) rfl ?_); refine goesL_ (some 17) rfl rfl Try.func39 (by kernel_rfl) rfl #[.pointer (some ⟨w.heap.size, 0, none⟩), .string t341, .string (⟨#[40, 41, 91, 32]⟩ : ByteArray)] rfl (by (try simp only [List.map_toArray, List.map_cons, List.map_nil]); first | done | rfl) ?_; (with_reducible refine (spec_l1Cur_spoilt.calls k w.heap.size s0_0 t343 t344 t341 (⟨#[40, 41, 91, 32]⟩ : ByteArray) t345 t346 t347 w _ ?side1 ?side2 A7.out).mono ?_); (case side1 => repeat (first | exact HI0.out | apply iA | apply iN | apply iD | apply i1 | apply i2)); (case side2 => repeat (first | exact HB.out | apply bA | apply bN | apply bD | refine below_set ?_ (iG HI0.out))); rintro e w12 ⟨rfl, hi, hb, hk⟩; refine ⟨_, rfl, ?_⟩; replace HO338 := Aside0.mk (Kd.R_mono (Kd.R_keep (IsS48.apart (show IsS48 w _ w.heap.size s0_0 t343 t344 from by repeat (first | exact HI0.out | apply iA | apply iN | apply iD | apply i1 | apply i2)) (by (with_reducible repeat (first | apply rA | apply rN | apply rD)); exact HO338.out) (by decide)) hk (fun _ h => h.2)) (fun _ h => h.1)); replace HK := Aside0.mk (KeepBut.trans (by repeat (first | exact HK.out | apply kS | apply kN | apply kD | apply kA)) hk (.inl rfl)); replace HB := Aside0.mk (hb); replace HI0 := Aside0.mk (hi); (try clear hb2); (try clear hb hk hi)))
  go_ret
  exact ⟨by first | rfl | (simp [*, errW_none, errW_some] <;> rfl), by repeat (first | exact HB.out | apply bA | apply bN | apply bD | refine below_set ?_ (iG HI0.out))⟩
 ·replace c6 := Bool.eq_false_iff.mpr c6
  subst c6
  have H1 : (some (t341, t343, t344)) = some (r1, r2, r3) := by rw [if_neg (show ¬ (false = true) by decide)] at H; exact H
  clear H
  have H := H1
  clear H1
  simp only [Option.some.injEq, Prod.mk.injEq] at H
  obtain ⟨rfl, rfl, rfl⟩ := H
  go_wp2_with (first | ((with_reducible refine gate_callee (f := 29) rfl ?_); refine goesL_ (some 10) rfl rfl Try.func29 (by kernel_rfl) rfl #[.pointer (some ⟨w.heap.size, 0, none⟩), .int .i64 7] rfl (by (try simp only [List.map_toArray, List.map_cons, List.map_nil]); first | done | rfl) ?_; (with_reducible refine (spec_l1Cur_pick.calls w.heap.size s0_0 0 0 7 t333 t334 t335 w _ ?side1 ?side2 A2.out).mono ?_); (case side1 => repeat (first | exact HI0.out | apply iA | apply iN | apply iD | apply i1 | apply i2)); (case side2 => repeat (first | exact HB.out | apply bA | apply bN | apply bD | refine below_set ?_ (iG HI0.out))); rintro e w13 ⟨rfl, hi, hb, hk⟩; refine ⟨_, rfl, ?_⟩; replace HK := Aside0.mk (KeepBut.trans (by repeat (first | exact HK.out | apply kS | apply kN | apply kD | apply kA)) hk (.inl rfl)); replace HB := Aside0.mk (hb); replace HI0 := Aside0.mk (hi); (try clear hb2); (try clear hb hk hi)) | ((with_reducible refine gate_callee (f := 38) rfl ?_); refine goesL_ (some 11) rfl rfl Try.func38 (by kernel_rfl) rfl #[.pointer (some ⟨w.heap.size, 0, none⟩), .int .i64 t333] rfl (by (try simp only [List.map_toArray, List.map_cons, List.map_nil]); first | done | rfl) ?_; (with_reducible refine (spec_l1Cur_sure.calls k w.heap.size s0_0 t334 t335 t333 t336 t339 t340 w _ ?side1 ?side2 A3.out).mono ?_); (case side1 => repeat (first | exact HI0.out | apply iA | apply iN | apply iD | apply i1 | apply i2)); (case side2 => repeat (first | exact HB.out | apply bA | apply bN | apply bD | refine below_set ?_ (iG HI0.out))); rintro e w14 ⟨v337, rfl, ho0, hi, hb, hk⟩; refine ⟨_, rfl, ?_⟩; have HO338 := Aside0.mk (Kd.R_lower ho0 (keep_size (w := wb) (g := w.heap.size) (row := none) (by repeat (first | exact HK.out | apply kS | apply kN | apply kD | apply kA)))); replace HK := Aside0.mk (KeepBut.trans (by repeat (first | exact HK.out | apply kS | apply kN | apply kD | apply kA)) hk (.inl rfl)); replace HB := Aside0.mk (hb); replace HI0 := Aside0.mk (hi); (try clear hb2); (try clear hb hk hi); (try clear ho0); obtain ⟨Ao15, co15, eo15⟩ := Kd.R_slice HO338.out; subst eo15) | ((with_reducible refine gate_callee (f := 37) rfl ?_); refine goesL_ (some 12) rfl rfl Try.func37 (by kernel_rfl) rfl #[.slice Ao15 t336.length co15] rfl (by (try simp only [List.map_toArray, List.map_cons, List.map_nil]); first | done | rfl) ?_; (with_reducible refine (spec_ahText.calls k _ _ t336 t341 _ ?side1 ?side2 A4.out).mono ?_); (case side1 => repeat (first | exact (Kd.R_reads' HO338.out).2.2 | (with_reducible refine Kd.C_alloc ?_ _) | (with_reducible refine Kd.C_drewN ?_ _) | (with_reducible refine Kd.C_drew ?_))); (case side2 => exact (Kd.R_reads' HO338.out).2.1); rintro e w' ⟨rfl, ⟨nd, rfl⟩⟩; refine ⟨_, rfl, ?_⟩) | ((with_reducible refine gate_callee (f := 27) rfl ?_); refine goesL_ (some 14) rfl rfl Try.func27 (by kernel_rfl) rfl #[.pointer (some ⟨w.heap.size, 0, none⟩), .int .i64 3] rfl (by (try simp only [List.map_toArray, List.map_cons, List.map_nil]); first | done | rfl) ?_; (with_reducible refine (spec_l1Cur_one.calls w.heap.size s0_0 t339 t340 3 false t343 t344 w _ ?side1 ?side2 A5.out).mono ?_); (case side1 => repeat (first | exact HI0.out | apply iA | apply iN | apply iD | apply i1 | apply i2)); (case side2 => repeat (first | exact HB.out | apply bA | apply bN | apply bD | refine below_set ?_ (iG HI0.out))); rintro e w16 ⟨rfl, hi, hb, hk⟩; refine ⟨_, rfl, ?_⟩; replace HO338 := Aside0.mk (Kd.R_mono (Kd.R_keep (IsS48.apart (show IsS48 w _ w.heap.size s0_0 t339 t340 from by repeat (first | exact HI0.out | apply iA | apply iN | apply iD | apply i1 | apply i2)) (by (with_reducible repeat (first | apply rA | apply rN | apply rD)); exact HO338.out) (by decide)) hk (fun _ h => h.2)) (fun _ h => h.1)); replace HK := Aside0.mk (KeepBut.trans (by repeat (first | exact HK.out | apply kS | apply kN | apply kD | apply kA)) hk (.inl rfl)); replace HB := Aside0.mk (hb); replace HI0 := Aside0.mk (hi); (try clear hb2); (try clear hb hk hi)))
  go_ret
  exact ⟨by first | rfl | (simp [*, errW_none, errW_some] <;> rfl), by repeat (first | exact HB.out | apply bA | apply bN | apply bD | refine below_set ?_ (iG HI0.out))⟩

/-! ### impl_parseSystem: function 40 -/
def impl_parseSystem.l0 : Nat → ByteArray → List Int → List Int → Int → Int → Option (List Int × Bool)
 | 0, _, _, _, _, _ => none
 | k + 1, x0, x4, x5, x13, x14 => if x14 < x13 then (if 0 ≤ x14 then (if x14 < (x0.size : Int) then (if (bt x0 x14) = 40 then (if x5.length < 17592186044416 then (impl_parseSystem.l0 k x0 x4 (x5 ++ [x14]) x13 (wrap64 (x14 + 1))) else (none)) else (if (bt x0 x14) = 41 then (if (x5.length : Int) > 0 then (if 0 ≤ (wrap64 ((x5.length : Int) - 1)) then (if (wrap64 ((x5.length : Int) - 1)) < (x5.length : Int) then (if (wrap64 ((x5.length : Int) - 1)) ≤ (x5.length : Int) then (if x14 < (x4.length : Int) then (if 0 ≤ (rd x5 (wrap64 ((x5.length : Int) - 1))) then (if (rd x5 (wrap64 ((x5.length : Int) - 1))) < (x4.length : Int) then (impl_parseSystem.l0 k x0 ((x4.set (x14 : Int).toNat (rd x5 (wrap64 ((x5.length : Int) - 1)))).set ((rd x5 (wrap64 ((x5.length : Int) - 1))) : Int).toNat x14) (x5.take ((wrap64 ((x5.length : Int) - 1)) : Int).toNat) x13 (wrap64 (x14 + 1))) else (none)) else (none)) else (none)) else (none)) else (none)) else (none)) else (some (([] : List Int), false))) else (some (([] : List Int), false)))) else (none)) else (none)) else (some (x4, ((x5.length : Int) == 0)))
def impl_parseSystem.f (k : Nat) (a0 : ByteArray) : Option (List Int × Bool) := if 0 ≤ (a0.size : Int) then (if ((a0.size : Int) : Int).toNat ≤ 35184372088832 then (impl_parseSystem.l0 k a0 (List.replicate ((a0.size : Int) : Int).toNat 0) (([] : List Int)) (a0.size : Int) 0) else (none)) else (none)
theorem impl_parseSystem.mono_l : ∀ k, (∀ y0 y1 y2 y3 y4, LeO (impl_parseSystem.l0 k y0 y1 y2 y3 y4) (impl_parseSystem.l0 (k + 1) y0 y1 y2 y3 y4))
 | 0 => fun _ _ _ _ _ r h => by simp [impl_parseSystem.l0] at h
 | k + 1 => by
  have ih0 := impl_parseSystem.mono_l k
  ·intro y0 y1 y2 y3 y4
   unfold impl_parseSystem.l0
   repeat' first
   | (with_reducible exact ih0 _ _ _ _ _)
   | (with_reducible exact LeO.refl _)
   | (with_reducible exact LeO.none _)
   | (with_reducible refine LeO.ite ?_ ?_)
   | (with_reducible refine LeO.bind ?_ (fun _ => ?_))
   | exact LeO.none _
   | refine LeO.ite ?_ ?_
   | refine LeO.bind ?_ (fun _ => ?_)
theorem impl_parseSystem.mono : ∀ a0 k, LeO (impl_parseSystem.f k a0) (impl_parseSystem.f (k + 1) a0) := by
 intro a0 k
 have ih0 := impl_parseSystem.mono_l k
 unfold impl_parseSystem.f
 repeat' first
   | (with_reducible exact ih0 _ _ _ _ _)
   | (with_reducible exact LeO.refl _)
   | (with_reducible exact LeO.none _)
   | (with_reducible refine LeO.ite ?_ ?_)
   | (with_reducible refine LeO.bind ?_ (fun _ => ?_))
   | exact LeO.none _
   | refine LeO.ite ?_ ?_
   | refine LeO.bind ?_ (fun _ => ?_)
theorem impl_parseSystem.calls (k : Nat) (a0 : ByteArray) (r1 : List Int) (r2 : Bool) (w : World) (h : impl_parseSystem.f k a0 = some (r1, r2)) :
  Calls Try.prog 40 #[.string a0] w fun e w' => ∃ v0_ : Value, e = .returned (.tuple #[v0_, .bool r2]) ∧ Kd.R (Kd.int .i64) 3 w' w.heap.size (fun _ => True) v0_ r1 ∧ Below w.heap.size w w' := by
 have HB := Aside0.mk (Below.refl w.heap.size w)
 have H : (if 0 ≤ (a0.size : Int) then (if ((a0.size : Int) : Int).toNat ≤ 35184372088832 then (impl_parseSystem.l0 k a0 (List.replicate ((a0.size : Int) : Int).toNat 0) (([] : List Int)) (a0.size : Int) 0) else (none)) else (none)) = some (r1, r2) := h
 clear h
 by_cases c2 : 0 ≤ (a0.size : Int)
 ·rw [if_pos c2] at H
  have c2b0 := eq_true c2
  have c2b1 : decide (0 ≤ (a0.size : Int)) = true := decide_eq_true c2
  clear c2
  by_cases c3 : ((a0.size : Int) : Int).toNat ≤ 35184372088832
  ·rw [if_pos c3] at H
   have c3b0 := eq_true c3
   have c3b1 : decide (((a0.size : Int) : Int).toNat ≤ 35184372088832) = true := decide_eq_true c3
   clear c3
   obtain ⟨y348, hy348⟩ : ∃ y_ : List Int, y_ = (List.replicate ((a0.size : Int) : Int).toNat 0) := ⟨_, rfl⟩
   replace H : (impl_parseSystem.l0 k a0 y348 (([] : List Int)) (a0.size : Int) 0) = some (r1, r2) := by first | (rw [hy348]; with_reducible exact H) | (have H2_ := (Option.bind_some _ _).symm.trans H; rw [hy348]; with_reducible exact H2_) | (have H2_ := (Option.bind_some _ _).symm.trans H; with_reducible exact H2_) | with_reducible exact H | (rw [hy348]; exact H) | exact H
   have Ny348 := Aside0.mk hy348
   clear hy348
   obtain ⟨y351, hy351⟩ : ∃ y_ : List Int, y_ = (([] : List Int)) := ⟨_, rfl⟩
   replace H : (impl_parseSystem.l0 k a0 y348 y351 (a0.size : Int) 0) = some (r1, r2) := by first | (rw [hy351]; with_reducible exact H) | (have H2_ := (Option.bind_some _ _).symm.trans H; rw [hy351]; with_reducible exact H2_) | (have H2_ := (Option.bind_some _ _).symm.trans H; with_reducible exact H2_) | with_reducible exact H | (rw [hy351]; exact H) | exact H
   have Ny351 := Aside0.mk hy351
   clear hy351
   have H' := Aside0.mk H
   clear H
   go_enter Try.func40, Try.ntmps40
   go_wp2_with (first | ((with_reducible refine gate_dst (N := 10) rfl ?_); (try (refine gate_guard (by rfl) ?_; dsimp only)); refine Kd.R_make (Kd.int .i64) _ 3 rfl (N := 10) rfl 26 _ _ rfl (a0.size : Int) rfl rfl Try.underlying26 (.int .i64 0) 8 info3 rfl (by decide) (by omega) 0 (ok := fun _ => True) (okp := fun _ => True) rfl (fun _ hk => hk) trivial (of_decide_eq_true (by assumption)) (Nat.le_trans (Nat.mul_le_mul_right _ (of_decide_eq_true (by assumption) : (a0.size : Int).toNat ≤ 35184372088832)) (by omega)) (Below.refl _ _) (Nat.le_refl _) ?_; intro v349 w4 ho5 hb hg_ hnew_; clear hg_ hnew_; (first | rw [← Ny348.out] at ho5 | (simp only [Int.reduceToNat] at ho5; rw [← Ny348.out] at ho5)); have HO350 := Aside0.mk (Kd.R_lower ho5 (below_size (by repeat (first | exact HB.out | apply bA | apply bN | apply bD)))); replace HB := Aside0.mk (below_step (by repeat (first | exact HB.out | apply bA | apply bN | apply bD)) hb); clear hb ho5) | ((with_reducible refine gate_dst (N := 11) rfl ?_); (try (refine gate_guard (by rfl) ?_; dsimp only)); refine Kd.R_lit (Kd.int .i64) _ 3 ?hg (N := 11) ?hd (xs := ([] : List Int)) (inner := []) (ok := fun _ => True) (okp := fun _ => True) ?hr ?hp (fun _ hk => hk) trivial (Below.refl _ _) (Nat.le_refl _) (by simp) ?_; (case hd => rfl); (case hg => rfl); (case hr => first | (go_simp; done) | (go_simp; rfl)); (case hp => exact (Reps.none _ _)); intro v352 w6 ho7 hb hg_ hnew_; clear hg_ hnew_; (first | rw [← Ny351.out] at ho7 | (simp only [Int.reduceToNat] at ho7; rw [← Ny351.out] at ho7)); have HO353 := Aside0.mk (Kd.R_lower (Kd.R_new' ho7 (Kd.R_lt (by (with_reducible repeat (first | apply rA | apply rN | apply rD)); exact HO350.out))) (below_size (by repeat (first | exact HB.out | apply bA | apply bN | apply bD)))); replace HO350 := Aside0.mk (Kd.R_elder' (by (with_reducible repeat (first | apply rA | apply rN | apply rD)); exact HO350.out) (Kd.R_base ho7) hb); replace HB := Aside0.mk (below_step (by repeat (first | exact HB.out | apply bA | apply bN | apply bD)) hb); clear hb ho7))
   go_loopg [5, 14] k (fun kq v5 v14 w' => ∃ (x4_1 : List Int) (x5_1 : List Int) (x14_1 : Int), v14 = .int .i64 x14_1 ∧ Aside0 (impl_parseSystem.l0 kq a0 x4_1 x5_1 (a0.size : Int) x14_1 = some (r1, r2)) ∧ Aside0 (kq ≤ k) ∧ Aside0 (Kd.R (Kd.int .i64) 3 w' w.heap.size (fun k_ => some k_ ≠ (v5 : Value).ownBlock) v349 x4_1) ∧ Aside0 (Kd.R (Kd.int .i64) 3 w' w.heap.size (fun k_ => some k_ ≠ (v349 : Value).ownBlock) v5 x5_1) ∧ Aside0 (Below w.heap.size w w'))
   case atStart => exact ⟨(y348), (y351), (0), (by first | rfl | (simp; done) | (simp [*]; done)), H', ⟨Nat.le_refl _⟩, ⟨by (with_reducible repeat (first | apply rA | apply rN | apply rD)); exact Kd.R_mono HO350.out (fun _ hk => hk.2)⟩, ⟨by (with_reducible repeat (first | apply rA | apply rN | apply rD)); exact Kd.R_mono HO353.out (fun _ hk => hk.2)⟩, ⟨by repeat (first | exact HB.out | apply bA | apply bN | apply bD)⟩⟩
   case round =>
    clear H'
    try clear p2
    obtain ⟨x4_1, x5_1, x14_1, rfl, HA, HK1, HO_4, HO_5, HB⟩ := hrel
    cases gk with
    | zero => exact absurd HA.out (by simp [impl_parseSystem.l0])
    | succ k1 =>
     have H := HA.out
     clear HA
     simp only [impl_parseSystem.l0] at H
     by_cases c8 : x14_1 < (a0.size : Int)
     ·rw [if_pos c8] at H
      have c8b0 : decide (x14_1 < (a0.size : Int)) = true := decide_eq_true c8
      clear c8
      by_cases c9 : 0 ≤ x14_1
      ·rw [if_pos c9] at H
       have c9b0 : decide (0 ≤ x14_1) = true := decide_eq_true c9
       clear c9
       by_cases c10 : x14_1 < (a0.size : Int)
       ·rw [if_pos c10] at H
        have c10b0 : decide (x14_1 < (a0.size : Int)) = true := decide_eq_true c10
        clear c10
        by_cases c12 : (bt a0 x14_1) = 40
        ·rw [if_pos c12] at H
         have c12b0 : ((bt a0 x14_1) == 40) = true := beq_iff_eq.mpr c12
         have c12b1 : ((bt a0 x14_1) != 40) = false := bne_eq_false_iff_eq.mpr c12
         clear c12
         by_cases c13 : x5_1.length < 17592186044416
         ·rw [if_pos c13] at H
          have LMc13 := Aside0.mk c13
          clear c13
          obtain ⟨y354, hy354⟩ : ∃ y_ : List Int, y_ = (x5_1 ++ [x14_1]) := ⟨_, rfl⟩
          replace H : (impl_parseSystem.l0 k1 a0 x4_1 y354 (a0.size : Int) (wrap64 (x14_1 + 1))) = some (r1, r2) := by first | (rw [hy354]; with_reducible exact H) | (have H2_ := (Option.bind_some _ _).symm.trans H; rw [hy354]; with_reducible exact H2_) | (have H2_ := (Option.bind_some _ _).symm.trans H; with_reducible exact H2_) | with_reducible exact H | (rw [hy354]; exact H) | exact H
          have Ny354 := Aside0.mk hy354
          clear hy354
          have H' := Aside0.mk H
          clear H
          have p11 : 0 ≤ (x14_1 : Int) := of_decide_eq_true (by assumption)
          have q11 : x14_1 < (a0.size : Int) := of_decide_eq_true (by assumption)
          have hx11 := bt_at a0 x14_1
          replace p11 := eq_true p11
          replace q11 := eq_true q11
          go_wp2_with (first | ((with_reducible refine gate_builtin (b := .append) (xs := #[.tmp 22, .tmp 24]) rfl ?_); (try (refine gate_guard (by rfl) ?_; dsimp only)); at_builtin; refine Kd.R_append (Kd.int .i64) (w0 := w) w.heap.size rfl (.tmp 22) (.tmp 24) 26 3 (.int .i64 0) 8 rfl Try.underlying26 info3 rfl (by decide) (by omega) u5 x5_1 x14_1 [.int .i64 x14_1] (fun k_ => some k_ ≠ (v349 : Value).ownBlock) (fun _ => False) rfl rfl ?aP (fun _ hk => hk.elim) ?aF ?aO ?aB ?aS ?aL ?_; (case aP => exact rfl); (case aB => exact (by repeat (first | exact HB.out | apply bA | apply bN | apply bD))); (case aF => exact (fun k_ hk => Kd.fresh' (Kd.R_lt (by (with_reducible repeat (first | apply rA | apply rN | apply rD)); exact HO_4.out)) k_ hk)); (case aO => exact (by (with_reducible repeat (first | apply rA | apply rN | apply rD)); exact HO_5.out)); (case aS => exact (below_size (by repeat (first | exact HB.out | apply bA | apply bN | apply bD)))); (case aL => have := LMc13.out; omega); intro v355 w14 ho hb hg hat; rw [← Ny354.out] at ho; replace HO_4 := Aside0.mk (Kd.R_after (ok := (fun _ => True)) (by (with_reducible repeat (first | apply rA | apply rN | apply rD)); exact Kd.R_mono HO_4.out (fun _ hk => ⟨trivial, hk⟩)) hg hat); replace HB := Aside0.mk (hb); have HO356 := Aside0.mk (ho); clear HO_5; clear ho hb hg hat))
          go_roundg k1
          case measure => have := HK1.out; omega
          case rel => exact ⟨(x4_1), (y354), (wrap64 (x14_1 + 1)), (by first | rfl | (simp; done) | (simp [*]; done)), H', ⟨by have := HK1.out; omega⟩, ⟨by (with_reducible repeat (first | apply rA | apply rN | apply rD)); exact Kd.R_mono HO_4.out (fun _ hk => hk.2)⟩, ⟨by (with_reducible repeat (first | apply rA | apply rN | apply rD)); exact HO356.out⟩, ⟨by repeat (first | exact HB.out | apply bA | apply bN | apply bD)⟩⟩
         ·rw [if_neg c13] at H
          exact absurd H (by simp)
        ·rw [if_neg c12] at H
         have c12b0 : ((bt a0 x14_1) == 40) = false := beq_eq_false_iff_ne.mpr c12
         have c12b1 : ((bt a0 x14_1) != 40) = true := bne_iff_ne.mpr c12
         by_cases c16 : (bt a0 x14_1) = 41
         ·rw [if_pos c16] at H
          have c16b0 : ((bt a0 x14_1) == 41) = true := beq_iff_eq.mpr c16
          have c16b1 : ((bt a0 x14_1) != 41) = false := bne_eq_false_iff_eq.mpr c16
          clear c16
          by_cases c17 : (x5_1.length : Int) > 0
          ·rw [if_pos c17] at H
           have c17b0 : decide (0 < (x5_1.length : Int)) = true := decide_eq_true c17
           have c17b1 : decide (0 < x5_1.length) = true := decide_eq_true (by omega)
           clear c17
           obtain ⟨ji18, hji18⟩ : ∃ j_ : Int, (wrap64 ((x5_1.length : Int) - 1)) = j_ := ⟨_, rfl⟩
           replace H : (if 0 ≤ (ji18) then (if (ji18) < (x5_1.length : Int) then (if (ji18) ≤ (x5_1.length : Int) then (if x14_1 < (x4_1.length : Int) then (if 0 ≤ (rd x5_1 (ji18)) then (if (rd x5_1 (ji18)) < (x4_1.length : Int) then (impl_parseSystem.l0 k1 a0 ((x4_1.set (x14_1 : Int).toNat (rd x5_1 (ji18))).set ((rd x5_1 (ji18)) : Int).toNat x14_1) (x5_1.take ((ji18) : Int).toNat) (a0.size : Int) (wrap64 (x14_1 + 1))) else (none)) else (none)) else (none)) else (none)) else (none)) else (none)) = some (r1, r2) := by first | (rw [hji18] at H; exact H) | (simp only [hji18] at H ⊢; exact H)
           have hji18w : (IntKind.i64.wrap ((x5_1.length : Int) - 1)) = ji18 := (i64_w _).trans hji18
           by_cases c19 : 0 ≤ (ji18)
           ·rw [if_pos c19] at H
            have c19b0 : decide (0 ≤ (ji18)) = true := decide_eq_true c19
            clear c19
            by_cases c20 : (ji18) < (x5_1.length : Int)
            ·rw [if_pos c20] at H
             have c20b0 : decide ((ji18) < (x5_1.length : Int)) = true := decide_eq_true c20
             clear c20
             by_cases c21 : (ji18) ≤ (x5_1.length : Int)
             ·rw [if_pos c21] at H
              have c21b0 := eq_true c21
              have c21b1 : decide ((ji18) ≤ (x5_1.length : Int)) = true := decide_eq_true c21
              clear c21
              obtain ⟨y358, hy358⟩ : ∃ y_ : List Int, y_ = (x5_1.take ((ji18) : Int).toNat) := ⟨_, rfl⟩
              replace H : (if x14_1 < (x4_1.length : Int) then (if 0 ≤ (rd x5_1 (ji18)) then (if (rd x5_1 (ji18)) < (x4_1.length : Int) then (impl_parseSystem.l0 k1 a0 ((x4_1.set (x14_1 : Int).toNat (rd x5_1 (ji18))).set ((rd x5_1 (ji18)) : Int).toNat x14_1) y358 (a0.size : Int) (wrap64 (x14_1 + 1))) else (none)) else (none)) else (none)) = some (r1, r2) := by first | (rw [hy358]; with_reducible exact H) | (have H2_ := (Option.bind_some _ _).symm.trans H; rw [hy358]; with_reducible exact H2_) | (have H2_ := (Option.bind_some _ _).symm.trans H; with_reducible exact H2_) | with_reducible exact H | (rw [hy358]; exact H) | exact H
              have Ny358 := Aside0.mk hy358
              clear hy358
              by_cases c22 : x14_1 < (x4_1.length : Int)
              ·rw [if_pos c22] at H
               have c22b0 : decide (x14_1 < (x4_1.length : Int)) = true := decide_eq_true c22
               clear c22
               obtain ⟨y361, hy361⟩ : ∃ y_ : List Int, y_ = (x4_1.set (x14_1 : Int).toNat (rd x5_1 (ji18))) := ⟨_, rfl⟩
               replace H : (if 0 ≤ (rd x5_1 (ji18)) then (if (rd x5_1 (ji18)) < (x4_1.length : Int) then (impl_parseSystem.l0 k1 a0 (y361.set ((rd x5_1 (ji18)) : Int).toNat x14_1) y358 (a0.size : Int) (wrap64 (x14_1 + 1))) else (none)) else (none)) = some (r1, r2) := by first | (rw [hy361]; with_reducible exact H) | (have H2_ := (Option.bind_some _ _).symm.trans H; rw [hy361]; with_reducible exact H2_) | (have H2_ := (Option.bind_some _ _).symm.trans H; with_reducible exact H2_) | with_reducible exact H | (rw [hy361]; exact H) | exact H
               have Ny361 := Aside0.mk hy361
               clear hy361
               by_cases c24 : 0 ≤ (rd x5_1 (ji18))
               ·rw [if_pos c24] at H
                have c24b0 : decide (0 ≤ (rd x5_1 (ji18))) = true := decide_eq_true c24
                clear c24
                by_cases c25 : (rd x5_1 (ji18)) < (x4_1.length : Int)
                ·rw [if_pos c25] at H
                 have c25b0 : decide ((rd x5_1 (ji18)) < (x4_1.length : Int)) = true := decide_eq_true c25
                 clear c25
                 obtain ⟨y362, hy362⟩ : ∃ y_ : List Int, y_ = (y361.set ((rd x5_1 (ji18)) : Int).toNat x14_1) := ⟨_, rfl⟩
                 replace H : (impl_parseSystem.l0 k1 a0 y362 y358 (a0.size : Int) (wrap64 (x14_1 + 1))) = some (r1, r2) := by first | (rw [hy362]; with_reducible exact H) | (have H2_ := (Option.bind_some _ _).symm.trans H; rw [hy362]; with_reducible exact H2_) | (have H2_ := (Option.bind_some _ _).symm.trans H; with_reducible exact H2_) | with_reducible exact H | (rw [hy362]; exact H) | exact H
                 have Ny362 := Aside0.mk hy362
                 clear hy362
                 have H' := Aside0.mk H
                 clear H
                 have p11 : 0 ≤ (x14_1 : Int) := of_decide_eq_true (by assumption)
                 have q11 : x14_1 < (a0.size : Int) := of_decide_eq_true (by assumption)
                 have hx11 := bt_at a0 x14_1
                 replace p11 := eq_true p11
                 replace q11 := eq_true q11
                 have p15 : 0 ≤ (x14_1 : Int) := of_decide_eq_true (by assumption)
                 have q15 : x14_1 < (a0.size : Int) := of_decide_eq_true (by assumption)
                 have hx15 := bt_at a0 x14_1
                 replace p15 := eq_true p15
                 replace q15 := eq_true q15
                 obtain ⟨Ao27, co27, eo27⟩ := Kd.R_slice HO_5.out
                 subst eo27
                 have p357 : 0 ≤ ((ji18) : Int) := of_decide_eq_true (by assumption)
                 have q357 : (ji18) < (x5_1.length : Int) := of_decide_eq_true (by assumption)
                 obtain ⟨ad357, e357, hx357_0⟩ := Kd.at_int (Kd.R_reads' HO_5.out).2.2 (ji18) p357 q357
                 cases e357
                 replace p357 := eq_true p357
                 replace q357 := eq_true q357
                 have q28 : ((ji18) : Int) ≤ ((x5_1.length : Int) : Int) := of_decide_eq_true (by assumption)
                 obtain ⟨i028, hi028, _, hsz28, _⟩ := info_parts info3
                 have hcut28 := cut_to (P := Try.prog) 26 3 .i64 Try.underlying26 hi028 (some ad357) x5_1.length co27 (ji18) (of_decide_eq_true (by assumption)) q28 (Kd.R_reads' HO_5.out).2.1
                 have hr28 := Kd.R_take (m := ((ji18) : Int).toNat) HO_5.out (by omega)
                 have hy28 : y358.length = ((ji18) : Int).toNat := (by rw [Ny358.out, List.length_take]; omega)
                 rw [← Ny358.out] at hr28
                 rw [← hy28] at hr28 hcut28
                 clear hy28 hi028 hsz28 HO_5
                 have HO360 := Aside0.mk hr28
                 clear hr28
                 replace q28 := eq_true q28
                 have p23 : 0 ≤ (x14_1 : Int) := of_decide_eq_true (by assumption)
                 have q23 : (x14_1 : Int) < ((x4_1.length : Int) : Int) := of_decide_eq_true (by assumption)
                 obtain ⟨go23, co23, eo23, gb23, gl23, cl23, HG23⟩ := Kd.R_form HO_4.out (by omega)
                 (first | cases eo23 | (injection eo23 with ea_ en_ ec_; (first | subst ea_ | (injection ea_ with ea_; subst ea_)); subst ec_; clear en_))
                 have GB23 := Aside0.mk gb23
                 have GG23 := Aside0.mk HG23
                 clear gb23 gl23 HG23
                 obtain ⟨hx23_0, hf23_0⟩ := Kd.R_celln 0 HO_4.out (x14_1 : Int) p23 q23
                 replace p23 := eq_true p23
                 replace q23 := eq_true q23
                 have HP29 := Kd.R_putg HO_4.out (x14_1 : Int) (rd x5_1 (ji18))
                 go_wp2_with (first | ((with_reducible refine gate_store (t := 3) (p := 53) rfl ?_); refine store_event (t := 3) (p := 53) (v := ?vo_w30) (w1 := (wr.setCell ⟨go23, (x14_1 : Int).toNat, none⟩ (.int .i64 (rd x5_1 (ji18))))) ?hg ?ho ?hn ?hr ?_; (case ho => rfl); (case hg => rfl); (case hn => rfl); (case hr => first | (go_simp; done) | (go_simp; rfl)); intro w30 hw; have hg : wr.grownBy w30 (some go23) := (by rw [hw]; exact HP29.2); have hp_ : Kd.R (Kd.int .i64) 3 w30 w.heap.size (fun k_ => some k_ ≠ (.slice (some ad357) y358.length co27 : Value).ownBlock) (.slice (some ⟨go23, 0, none⟩) x4_1.length co23) y361 := (by rw [hw, Ny361.out]; exact HP29.1); clear HP29; replace HO_4 := Aside0.mk (hp_); replace HO360 := Aside0.mk (Kd.R_after (v := (.slice (some ⟨go23, 0, none⟩) x4_1.length co23)) (v1 := (.slice (some ⟨go23, 0, none⟩) x4_1.length co23)) (ok := (fun _ => True)) (by (with_reducible repeat (first | apply rA | apply rN | apply rD)); exact Kd.R_mono HO360.out (fun _ hk => ⟨trivial, hk⟩)) hg (.inl rfl)); replace HB := Aside0.mk ((by rw [hw]; exact below_set (HB.out) GB23.out : Below w.heap.size w w30)); clear hg hw hp_; have p26 : 0 ≤ ((rd x5_1 (ji18)) : Int) := of_decide_eq_true (by assumption); have q26 : ((rd x5_1 (ji18)) : Int) < ((x4_1.length : Int) : Int) := of_decide_eq_true (by assumption); obtain ⟨hx26_0, hf26_0⟩ := Kd.R_celln 0 HO_4.out ((rd x5_1 (ji18)) : Int) p26 q26; replace p26 := eq_true p26; replace q26 := eq_true q26; obtain ⟨hy31_, hz31_⟩ := Kd.R_celln 0 HO_4.out ((rd x5_1 (ji18)) : Int) (of_decide_eq_true (by assumption)) (of_decide_eq_true (by assumption)); have HP31 := Kd.R_putg HO_4.out ((rd x5_1 (ji18)) : Int) x14_1) | ((with_reducible refine gate_store (t := 3) (p := 54) rfl ?_); refine store_event (t := 3) (p := 54) (v := ?vo_w32) (w1 := (w30.setCell ⟨go23, ((rd x5_1 (ji18)) : Int).toNat, none⟩ (.int .i64 x14_1))) ?hg ?ho ?hn ?hr ?_; (case ho => rfl); (case hg => rfl); (case hn => rfl); (case hr => first | (go_simp; done) | (go_simp; rfl)); intro w32 hw; have hg : w30.grownBy w32 (some go23) := (by rw [hw]; exact HP31.2); have hp_ : Kd.R (Kd.int .i64) 3 w32 w.heap.size (fun k_ => some k_ ≠ (.slice (some ad357) y358.length co27 : Value).ownBlock) (.slice (some ⟨go23, 0, none⟩) x4_1.length co23) y362 := (by rw [hw, Ny362.out]; exact HP31.1); clear HP31; replace HO_4 := Aside0.mk (hp_); replace HO360 := Aside0.mk (Kd.R_after (v := (.slice (some ⟨go23, 0, none⟩) x4_1.length co23)) (v1 := (.slice (some ⟨go23, 0, none⟩) x4_1.length co23)) (ok := (fun _ => True)) (by (with_reducible repeat (first | apply rA | apply rN | apply rD)); exact HO360.out) hg (.inl rfl)); replace HB := Aside0.mk ((by rw [hw]; exact below_set (HB.out) GB23.out : Below w.heap.size w w32)); clear hg hw hp_))
                 go_roundg k1
                 case measure => have := HK1.out; omega
                 case rel => exact ⟨(y362), (y358), (wrap64 (x14_1 + 1)), (by first | rfl | (simp; done) | (simp [*]; done)), H', ⟨by have := HK1.out; omega⟩, ⟨by (with_reducible repeat (first | apply rA | apply rN | apply rD)); exact HO_4.out⟩, ⟨by (with_reducible repeat (first | apply rA | apply rN | apply rD)); exact Kd.R_mono HO360.out (fun _ hk => hk.2)⟩, ⟨by repeat (first | exact HB.out | apply bA | apply bN | apply bD)⟩⟩
                ·rw [if_neg c25] at H
                 exact absurd H (by simp)
               ·rw [if_neg c24] at H
                exact absurd H (by simp)
              ·rw [if_neg c22] at H
               exact absurd H (by simp)
             ·rw [if_neg c21] at H
              exact absurd H (by simp)
            ·rw [if_neg c20] at H
             exact absurd H (by simp)
           ·rw [if_neg c19] at H
            exact absurd H (by simp)
          ·rw [if_neg c17] at H
           have c17b0 : decide (0 < (x5_1.length : Int)) = false := decide_eq_false c17
           have c17b1 : decide (0 < x5_1.length) = false := decide_eq_false (by omega)
           clear c17
           simp only [Option.some.injEq, Prod.mk.injEq] at H
           obtain ⟨rfl, rfl⟩ := H
           have p11 : 0 ≤ (x14_1 : Int) := of_decide_eq_true (by assumption)
           have q11 : x14_1 < (a0.size : Int) := of_decide_eq_true (by assumption)
           have hx11 := bt_at a0 x14_1
           replace p11 := eq_true p11
           replace q11 := eq_true q11
           have p15 : 0 ≤ (x14_1 : Int) := of_decide_eq_true (by assumption)
           have q15 : x14_1 < (a0.size : Int) := of_decide_eq_true (by assumption)
           have hx15 := bt_at a0 x14_1
           replace p15 := eq_true p15
           replace q15 := eq_true q15
           obtain ⟨Ao33, co33, eo33⟩ := Kd.R_slice HO_5.out
           subst eo33
           go_wp2
           go_ret2
           exact ⟨_, by first | rfl | (simp [*, errW_none, errW_some] <;> rfl), by first | exact Kd.R_nil _ _ _ _ _ | exact Kd.N_nil _ _ _ _ _ | exact Kd.V_nil _ _ _ _ _ | exact Kd.Q_nil _ _ _ _ _ | exact Kd.S_nil _ _ _ _ _, by repeat (first | exact HB.out | apply bA | apply bN | apply bD)⟩
         ·rw [if_neg c16] at H
          have c16b0 : ((bt a0 x14_1) == 41) = false := beq_eq_false_iff_ne.mpr c16
          have c16b1 : ((bt a0 x14_1) != 41) = true := bne_iff_ne.mpr c16
          simp only [Option.some.injEq, Prod.mk.injEq] at H
          obtain ⟨rfl, rfl⟩ := H
          have p11 : 0 ≤ (x14_1 : Int) := of_decide_eq_true (by assumption)
          have q11 : x14_1 < (a0.size : Int) := of_decide_eq_true (by assumption)
          have hx11 := bt_at a0 x14_1
          replace p11 := eq_true p11
          replace q11 := eq_true q11
          have p15 : 0 ≤ (x14_1 : Int) := of_decide_eq_true (by assumption)
          have q15 : x14_1 < (a0.size : Int) := of_decide_eq_true (by assumption)
          have hx15 := bt_at a0 x14_1
          replace p15 := eq_true p15
          replace q15 := eq_true q15
          go_wp2
          go_ret2
          exact ⟨_, by first | rfl | (simp [*, errW_none, errW_some] <;> rfl), by first | exact Kd.R_nil _ _ _ _ _ | exact Kd.N_nil _ _ _ _ _ | exact Kd.V_nil _ _ _ _ _ | exact Kd.Q_nil _ _ _ _ _ | exact Kd.S_nil _ _ _ _ _, by repeat (first | exact HB.out | apply bA | apply bN | apply bD)⟩
       ·rw [if_neg c10] at H
        exact absurd H (by simp)
      ·rw [if_neg c9] at H
       exact absurd H (by simp)
     ·rw [if_neg c8] at H
      have c8b0 : decide (x14_1 < (a0.size : Int)) = false := decide_eq_false c8
      clear c8
      simp only [Option.some.injEq, Prod.mk.injEq] at H
      obtain ⟨rfl, rfl⟩ := H
      obtain ⟨Ao34, co34, eo34⟩ := Kd.R_slice HO_5.out
      subst eo34
      go_wp2
      go_ret2
      exact ⟨_, by first | rfl | (simp [*, errW_none, errW_some] <;> rfl), by (with_reducible repeat (first | apply rA | apply rN | apply rD)); exact Kd.R_mono HO_4.out (fun _ hk => trivial), by repeat (first | exact HB.out | apply bA | apply bN | apply bD)⟩
  ·rw [if_neg c3] at H
   exact absurd H (by simp)
 ·rw [if_neg c2] at H
  exact absurd H (by simp)

/-! ### impl_ParseSystem: function 18 -/
def impl_ParseSystem.f (k : Nat) (a0 : ByteArray) : Option (List Int × Bool) := (impl_parseSystem.f k a0).bind fun bt363 => (if bt363.2 = true then (if (a0.size : Int) > 12 then (some (([] : List Int), false)) else (some (bt363.1, true))) else (some (([] : List Int), false)))
theorem impl_ParseSystem.mono : ∀ a0 k, LeO (impl_ParseSystem.f k a0) (impl_ParseSystem.f (k + 1) a0) := by
 intro a0 k
 unfold impl_ParseSystem.f
 repeat' first
   | (with_reducible exact impl_parseSystem.mono _ _)
   | (with_reducible exact LeO.refl _)
   | (with_reducible exact LeO.none _)
   | (with_reducible refine LeO.ite ?_ ?_)
   | (with_reducible refine LeO.bind ?_ (fun _ => ?_))
   | exact LeO.none _
   | refine LeO.ite ?_ ?_
   | refine LeO.bind ?_ (fun _ => ?_)
theorem impl_ParseSystem.calls (k : Nat) (a0 : ByteArray) (r1 : List Int) (r2 : Bool) (w : World) (h : impl_ParseSystem.f k a0 = some (r1, r2)) :
  Calls Try.prog 18 #[.string a0] w fun e w' => ∃ v0_ : Value, e = .returned (.tuple #[v0_, .bool r2]) ∧ Kd.R (Kd.int .i64) 3 w' w.heap.size (fun _ => True) v0_ r1 ∧ Below w.heap.size w w' := by
 have HB := Aside0.mk (Below.refl w.heap.size w)
 have H : ((impl_parseSystem.f k a0).bind fun bt363 => (if bt363.2 = true then (if (a0.size : Int) > 12 then (some (([] : List Int), false)) else (some (bt363.1, true))) else (some (([] : List Int), false)))) = some (r1, r2) := h
 clear h
 replace H := Option.bind_eq_some_iff.mp H
 obtain ⟨⟨t363, t364⟩, A20, H⟩ := H
 replace H : (if t364 = true then (if (a0.size : Int) > 12 then (some (([] : List Int), false)) else (some (t363, true))) else (some (([] : List Int), false))) = some (r1, r2) := H
 have A2 := Aside0.mk A20
 clear A20
 by_cases c3 : t364 = true
 ·subst c3
  have H1 : (if (a0.size : Int) > 12 then (some (([] : List Int), false)) else (some (t363, true))) = some (r1, r2) := by rw [if_pos rfl] at H; exact H
  clear H
  have H := H1
  clear H1
  by_cases c4 : (a0.size : Int) > 12
  ·rw [if_pos c4] at H
   have c4b0 : decide (12 < (a0.size : Int)) = true := decide_eq_true c4
   have c4b1 : decide (12 < a0.size) = true := decide_eq_true (by omega)
   clear c4
   simp only [Option.some.injEq, Prod.mk.injEq] at H
   obtain ⟨rfl, rfl⟩ := H
   go_enter Try.func18, Try.ntmps18
   go_wp2_with (first | ((with_reducible refine gate_callee (f := 40) rfl ?_); refine goesL_ (some 8) rfl rfl Try.func40 (by kernel_rfl) rfl #[.string a0] rfl (by (try simp only [List.map_toArray, List.map_cons, List.map_nil]); first | done | rfl) ?_; (with_reducible refine (impl_parseSystem.calls k a0 t363 true _ A2.out).mono ?_); rintro e w5 ⟨v365, rfl, ho0, hb⟩; refine ⟨_, rfl, ?_⟩; have HO366 := Aside0.mk (Kd.R_lower ho0 (below_size (by repeat (first | exact HB.out | apply bA | apply bN | apply bD)))); replace HB := Aside0.mk (below_step (by repeat (first | exact HB.out | apply bA | apply bN | apply bD)) hb); (try clear hb2); (try clear hb hk hi); (try clear ho0)))
   go_ret2
   exact ⟨_, by first | rfl | (simp [*, errW_none, errW_some] <;> rfl), by first | exact Kd.R_nil _ _ _ _ _ | exact Kd.N_nil _ _ _ _ _ | exact Kd.V_nil _ _ _ _ _ | exact Kd.Q_nil _ _ _ _ _ | exact Kd.S_nil _ _ _ _ _, by repeat (first | exact HB.out | apply bA | apply bN | apply bD)⟩
  ·rw [if_neg c4] at H
   have c4b0 : decide (12 < (a0.size : Int)) = false := decide_eq_false c4
   have c4b1 : decide (12 < a0.size) = false := decide_eq_false (by omega)
   clear c4
   simp only [Option.some.injEq, Prod.mk.injEq] at H
   obtain ⟨rfl, rfl⟩ := H
   go_enter Try.func18, Try.ntmps18
   go_wp2_with (first | ((with_reducible refine gate_callee (f := 40) rfl ?_); refine goesL_ (some 8) rfl rfl Try.func40 (by kernel_rfl) rfl #[.string a0] rfl (by (try simp only [List.map_toArray, List.map_cons, List.map_nil]); first | done | rfl) ?_; (with_reducible refine (impl_parseSystem.calls k a0 t363 true _ A2.out).mono ?_); rintro e w6 ⟨v365, rfl, ho0, hb⟩; refine ⟨_, rfl, ?_⟩; have HO366 := Aside0.mk (Kd.R_lower ho0 (below_size (by repeat (first | exact HB.out | apply bA | apply bN | apply bD)))); replace HB := Aside0.mk (below_step (by repeat (first | exact HB.out | apply bA | apply bN | apply bD)) hb); (try clear hb2); (try clear hb hk hi); (try clear ho0)))
   go_ret2
   exact ⟨_, by first | rfl | (simp [*, errW_none, errW_some] <;> rfl), by (with_reducible repeat (first | apply rA | apply rN | apply rD)); exact HO366.out, by repeat (first | exact HB.out | apply bA | apply bN | apply bD)⟩
 ·replace c3 := Bool.eq_false_iff.mpr c3
  subst c3
  have H1 : (some (([] : List Int), false)) = some (r1, r2) := by rw [if_neg (show ¬ (false = true) by decide)] at H; exact H
  clear H
  have H := H1
  clear H1
  simp only [Option.some.injEq, Prod.mk.injEq] at H
  obtain ⟨rfl, rfl⟩ := H
  go_enter Try.func18, Try.ntmps18
  go_wp2_with (first | ((with_reducible refine gate_callee (f := 40) rfl ?_); refine goesL_ (some 8) rfl rfl Try.func40 (by kernel_rfl) rfl #[.string a0] rfl (by (try simp only [List.map_toArray, List.map_cons, List.map_nil]); first | done | rfl) ?_; (with_reducible refine (impl_parseSystem.calls k a0 t363 false _ A2.out).mono ?_); rintro e w7 ⟨v365, rfl, ho0, hb⟩; refine ⟨_, rfl, ?_⟩; have HO366 := Aside0.mk (Kd.R_lower ho0 (below_size (by repeat (first | exact HB.out | apply bA | apply bN | apply bD)))); replace HB := Aside0.mk (below_step (by repeat (first | exact HB.out | apply bA | apply bN | apply bD)) hb); (try clear hb2); (try clear hb hk hi); (try clear ho0)))
  go_ret2
  exact ⟨_, by first | rfl | (simp [*, errW_none, errW_some] <;> rfl), by first | exact Kd.R_nil _ _ _ _ _ | exact Kd.N_nil _ _ _ _ _ | exact Kd.V_nil _ _ _ _ _ | exact Kd.Q_nil _ _ _ _ _ | exact Kd.S_nil _ _ _ _ _, by repeat (first | exact HB.out | apply bA | apply bN | apply bD)⟩

/-! ### spec_ParseSystem: function 19 -/
def spec_ParseSystem.f (k : Nat) (a0 : ByteArray) : Option (List Int × Bool) := (spec_ahParse.f k a0).bind fun bt367 => (some (bt367.1, bt367.2))
theorem spec_ParseSystem.mono : ∀ a0 k, LeO (spec_ParseSystem.f k a0) (spec_ParseSystem.f (k + 1) a0) := by
 intro a0 k
 unfold spec_ParseSystem.f
 repeat' first
   | (with_reducible exact spec_ahParse.mono _ _)
   | (with_reducible exact LeO.refl _)
   | (with_reducible exact LeO.none _)
   | (with_reducible refine LeO.ite ?_ ?_)
   | (with_reducible refine LeO.bind ?_ (fun _ => ?_))
   | exact LeO.none _
   | refine LeO.ite ?_ ?_
   | refine LeO.bind ?_ (fun _ => ?_)
theorem spec_ParseSystem.calls (k : Nat) (a0 : ByteArray) (r1 : List Int) (r2 : Bool) (w : World) (h : spec_ParseSystem.f k a0 = some (r1, r2)) :
  Calls Try.prog 19 #[.string a0] w fun e w' => ∃ v0_ : Value, e = .returned (.tuple #[v0_, .bool r2]) ∧ Kd.R (Kd.int .i64) 3 w' w.heap.size (fun _ => True) v0_ r1 ∧ Below w.heap.size w w' := by
 have HB := Aside0.mk (Below.refl w.heap.size w)
 have H : ((spec_ahParse.f k a0).bind fun bt367 => (some (bt367.1, bt367.2))) = some (r1, r2) := h
 clear h
 replace H := Option.bind_eq_some_iff.mp H
 obtain ⟨⟨t367, t368⟩, A20, H⟩ := H
 replace H : (some (t367, t368)) = some (r1, r2) := H
 have A2 := Aside0.mk A20
 clear A20
 simp only [Option.some.injEq, Prod.mk.injEq] at H
 obtain ⟨rfl, rfl⟩ := H
 go_enter Try.func19, Try.ntmps19
 go_wp2_with (first | ((with_reducible refine gate_callee (f := 41) rfl ?_); refine goesL_ (some 5) rfl rfl Try.func41 (by kernel_rfl) rfl #[.string a0] rfl (by (try simp only [List.map_toArray, List.map_cons, List.map_nil]); first | done | rfl) ?_; (with_reducible refine (spec_ahParse.calls k a0 t367 t368 _ A2.out).mono ?_); rintro e w3 ⟨v369, rfl, ho0, hb⟩; refine ⟨_, rfl, ?_⟩; have HO370 := Aside0.mk (Kd.R_lower ho0 (below_size (by repeat (first | exact HB.out | apply bA | apply bN | apply bD)))); replace HB := Aside0.mk (below_step (by repeat (first | exact HB.out | apply bA | apply bN | apply bD)) hb); (try clear hb2); (try clear hb hk hi); (try clear ho0)))
 go_ret2
 exact ⟨_, by first | rfl | (simp [*, errW_none, errW_some] <;> rfl), by (with_reducible repeat (first | apply rA | apply rN | apply rD)); exact HO370.out, by repeat (first | exact HB.out | apply bA | apply bN | apply bD)⟩

end Go.Proofs.Ytpbadjdeghmenaa.QFnSystemsListed
