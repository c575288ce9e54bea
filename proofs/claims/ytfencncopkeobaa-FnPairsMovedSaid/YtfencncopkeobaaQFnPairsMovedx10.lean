-- Written by wip/myprint.py (a program of mine round the kit's printer). Lean checks it.
import Derived.Test.YtfencncopkeobaaQFnPairsMovedx0
import Derived.Test.YtfencncopkeobaaQFnPairsMovedx2
import Derived.Test.YtfencncopkeobaaQFnPairsMovedx3
import Derived.Test.YtfencncopkeobaaQFnPairsMovedx9
namespace Go.Proofs.Ytfencncopkeobaa.QFnPairsMoved
open Go.RowKit Go.Proofs.YtfencncopkeobaaW.PrintWords Go.Proofs.YtfencncopkeobaaW.PrintLast Go.Proofs.YtfencncopkeobaaW.PrintMore
attribute [local go_sem] max2_int min2_int max_two min_two max_three min_three max_four min_four
set_option linter.unusedVariables false
set_option linter.unusedSimpArgs false
set_option maxHeartbeats 8000000
set_option maxRecDepth 100000
mutual
def spec_l1Cur_spoilt.l0 : Nat → ByteArray → ByteArray → Int → List Int → Int → Int → Option (ByteArray × Int × Int)
 | 0, _, _, _, _, _, _ => none
 | k + 1, x1, x2, x7, x1000, x1001, x1002 => if x7 > 0 then (spec_l1Cur_spoilt.j1 k x1 x2 x7 (decide ((x1.size : Int) > 0)) x1000 x1001 x1002) else (spec_l1Cur_spoilt.j1 k x1 x2 x7 false x1000 x1001 x1002)
def spec_l1Cur_spoilt.j1 : Nat → ByteArray → ByteArray → Int → Bool → List Int → Int → Int → Option (ByteArray × Int × Int)
 | 0, _, _, _, _, _, _, _ => none
 | k + 1, x1, x2, x7, x19, x1000, x1001, x1002 => if x19 = true then ((spec_l1Cur_pick.f x1000 x1001 x1002 (x1.size : Int)).bind fun bt471 => ((spec_l1Cur_pick.f x1000 bt471.2.1 bt471.2.2 (x2.size : Int)).bind fun bt474 => (if 0 ≤ bt474.1 then (if bt474.1 < (x2.size : Int) then ((some (([bt x2 bt474.1] : List Int) : List Int)).bind fun y477 => ((spec_l1Cur_pick.f x1000 bt474.2.1 bt474.2.2 3).bind fun bt480 => (if bt480.1 = 0 then (if 0 ≤ bt471.1 then (if bt471.1 ≤ (x1.size : Int) then (if (x1.extract 0 (bt471.1 : Int).toNat).size + (strOfNums y477).size ≤ 9223372036854775807 then (if ((x1.extract 0 (bt471.1 : Int).toNat) ++ (strOfNums y477)).size + (x1.extract (bt471.1 : Int).toNat x1.size).size ≤ 9223372036854775807 then (spec_l1Cur_spoilt.l0 k (((x1.extract 0 (bt471.1 : Int).toNat) ++ (strOfNums y477)) ++ (x1.extract (bt471.1 : Int).toNat x1.size)) x2 (wrap64 (x7 - 1)) x1000 bt480.2.1 bt480.2.2) else (none)) else (none)) else (none)) else (none)) else (if bt480.1 = 1 then (if 0 ≤ bt471.1 then (if bt471.1 ≤ (x1.size : Int) then (if (x1.extract 0 (bt471.1 : Int).toNat).size + (strOfNums y477).size ≤ 9223372036854775807 then (if 0 ≤ (wrap64 (bt471.1 + 1)) then (if (wrap64 (bt471.1 + 1)) ≤ (x1.size : Int) then (if ((x1.extract 0 (bt471.1 : Int).toNat) ++ (strOfNums y477)).size + (x1.extract ((wrap64 (bt471.1 + 1)) : Int).toNat x1.size).size ≤ 9223372036854775807 then (spec_l1Cur_spoilt.l0 k (((x1.extract 0 (bt471.1 : Int).toNat) ++ (strOfNums y477)) ++ (x1.extract ((wrap64 (bt471.1 + 1)) : Int).toNat x1.size)) x2 (wrap64 (x7 - 1)) x1000 bt480.2.1 bt480.2.2) else (none)) else (none)) else (none)) else (none)) else (none)) else (none)) else (if 0 ≤ bt471.1 then (if bt471.1 ≤ (x1.size : Int) then (if 0 ≤ (wrap64 (bt471.1 + 1)) then (if (wrap64 (bt471.1 + 1)) ≤ (x1.size : Int) then (if (x1.extract 0 (bt471.1 : Int).toNat).size + (x1.extract ((wrap64 (bt471.1 + 1)) : Int).toNat x1.size).size ≤ 9223372036854775807 then (spec_l1Cur_spoilt.l0 k ((x1.extract 0 (bt471.1 : Int).toNat) ++ (x1.extract ((wrap64 (bt471.1 + 1)) : Int).toNat x1.size)) x2 (wrap64 (x7 - 1)) x1000 bt480.2.1 bt480.2.2) else (none)) else (none)) else (none)) else (none)) else (none)))))) else (none)) else (none)))) else (some (x1, x1001, x1002))
end
def spec_l1Cur_spoilt.f (k : Nat) (s0_0 : List Int) (s0_1 : Int) (s0_2 : Int) (a1 : ByteArray) (a2 : ByteArray) : Option (ByteArray × Int × Int) := (spec_l1Cur_pick.f s0_0 s0_1 s0_2 2).bind fun bt468 => (spec_l1Cur_spoilt.l0 k a1 a2 (wrap64 (1 + bt468.1)) s0_0 bt468.2.1 bt468.2.2)
theorem spec_l1Cur_spoilt.calls (k : Nat) (g : Nat) (s0_0 : List Int) (s0_1 : Int) (s0_2 : Int) (a1 : ByteArray) (a2 : ByteArray) (r1 : ByteArray) (r2 : Int) (r3 : Int) (w0 w : World) (hI : IsS64 w0 w g s0_0 s0_1 s0_2) (hB : Below w0.heap.size w0 w) (h : spec_l1Cur_spoilt.f k s0_0 s0_1 s0_2 a1 a2 = some (r1, r2, r3)) :
 Calls Try.prog 68 #[.pointer (some ⟨g, 0, none⟩), .string a1, .string a2] w fun e w' => e = .returned (.string r1) ∧ IsS64 w0 w' g s0_0 r2 r3 ∧ Below w0.heap.size w0 w' ∧ KeepBut w w' g none := by
 have HI0 := am hI
 have HK := am (KeepBut.refl w g none)
 have HL := am hB.size
 clear hI
 have HW0 := am hB.size
 have HB := am hB
 clear hB
 have H : ((spec_l1Cur_pick.f s0_0 s0_1 s0_2 2).bind fun bt468 => (spec_l1Cur_spoilt.l0 k a1 a2 (wrap64 (1 + bt468.1)) s0_0 bt468.2.1 bt468.2.2)) = some (r1, r2, r3) := h
 clear h
 replace H := Option.bind_eq_some_iff.mp H
 obtain ⟨⟨t468, t469, t470⟩, A40, H⟩ := H
 replace H : (spec_l1Cur_spoilt.l0 k a1 a2 (wrap64 (1 + t468)) s0_0 t469 t470) = some (r1, r2, r3) := H
 have A4 := am A40
 clear A40
 have H' := am H
 clear H
 go_enter Try.func68, Try.ntmps68
 go_wp2_with (first | (go_at_call 46; (with_reducible refine (spec_l1Cur_pick.calls g s0_0 s0_1 s0_2 2 t468 t469 t470 w0 _ ?side1 ?side2 A4.out).mono ?_); (case side1 => repeat (first | exact HI0.out | apply iA | apply iN | apply iD | apply i1 | apply i2)); (case side2 => repeat (with_reducible first | exact HB.out | apply bA | apply bN | apply bD | refine bS ?_ (iG HI0.out))); rintro e w5 ⟨rfl, hi, hb, hk⟩; replace HK := am (KeepBut.trans (by repeat (first | exact HK.out | apply kS | apply kN | apply kD | apply kA)) hk (.inl rfl)); replace HB := am (hb); replace HI0 := am (hi); (try clear hb2); (try clear hb hk hi)))
 repeat (go_quiet (first | (go_at_call 46; (with_reducible refine (spec_l1Cur_pick.calls g s0_0 s0_1 s0_2 2 t468 t469 t470 w0 _ ?side1 ?side2 A4.out).mono ?_); (case side1 => repeat (first | exact HI0.out | apply iA | apply iN | apply iD | apply i1 | apply i2)); (case side2 => repeat (with_reducible first | exact HB.out | apply bA | apply bN | apply bD | refine bS ?_ (iG HI0.out))); rintro e w5 ⟨rfl, hi, hb, hk⟩; replace HK := am (KeepBut.trans (by repeat (first | exact HK.out | apply kS | apply kN | apply kD | apply kA)) hk (.inl rfl)); replace HB := am (hb); replace HI0 := am (hi); (try clear hb2); (try clear hb hk hi))); try go_wp2_with (first | (go_at_call 46; (with_reducible refine (spec_l1Cur_pick.calls g s0_0 s0_1 s0_2 2 t468 t469 t470 w0 _ ?side1 ?side2 A4.out).mono ?_); (case side1 => repeat (first | exact HI0.out | apply iA | apply iN | apply iD | apply i1 | apply i2)); (case side2 => repeat (with_reducible first | exact HB.out | apply bA | apply bN | apply bD | refine bS ?_ (iG HI0.out))); rintro e w5 ⟨rfl, hi, hb, hk⟩; replace HK := am (KeepBut.trans (by repeat (first | exact HK.out | apply kS | apply kN | apply kD | apply kA)) hk (.inl rfl)); replace HB := am (hb); replace HI0 := am (hi); (try clear hb2); (try clear hb hk hi))))
 go_loopg [1, 7] k (fun kq v1 v7 w' => ∃ (x1_1 : ByteArray) (x7_1 : Int) (x1001_1 : Int) (x1002_1 : Int), v1 = .string x1_1 ∧ v7 = .int .i64 x7_1 ∧ Aside0 (spec_l1Cur_spoilt.l0 kq x1_1 a2 x7_1 s0_0 x1001_1 x1002_1 = some (r1, r2, r3)) ∧ Aside0 (kq ≤ k) ∧ Aside0 (IsS64 w0 w' g s0_0 x1001_1 x1002_1) ∧ Aside0 (KeepBut w w' g none) ∧ Aside0 (Below w0.heap.size w0 w'))
 case atStart => exact ⟨(a1), (wrap64 (1 + t468)), (t469), (t470), (by first | rfl | (simp; done) | (simp [*]; done)), (by first | rfl | (simp; done) | (simp [*]; done)), H', ⟨Nat.le_refl _⟩, ⟨by repeat (first | exact HI0.out | apply iA | apply iN | apply iD | apply i1 | apply i2)⟩, ⟨by repeat (first | exact HK.out | apply kS | apply kN | apply kD | apply kA)⟩, ⟨by repeat (with_reducible first | exact HB.out | apply bA | apply bN | apply bD | refine bS ?_ (iG HI0.out))⟩⟩
 case round =>
  clear H'
  try clear p2
  obtain ⟨x1_1, x7_1, x1001_1, x1002_1, rfl, rfl, HA, HK1, HI0, HK, HB⟩ := hrel
  cases gk with
  | zero => exact absurd HA.out (by simp [spec_l1Cur_spoilt.l0])
  | succ k1 =>
   have H := HA.out
   clear HA
   simp only [spec_l1Cur_spoilt.l0] at H
   have HC6 := am H
   clear H
   go_upto_region 2 with (fail)
   repeat (go_quiet (fail); go_upto_region 2 with (fail))
   go_cut [19] (fun v19 wc => ∃ (kq : Nat) (x19_5 : Bool), v19 = .bool x19_5 ∧ Aside0 (spec_l1Cur_spoilt.j1 kq x1_1 a2 x7_1 x19_5 s0_0 x1001_1 x1002_1 = some (r1, r2, r3)) ∧ Aside0 (kq ≤ k1) ∧ Aside0 (IsS64 w0 wc g s0_0 x1001_1 x1002_1) ∧ Aside0 (KeepBut w wc g none) ∧ Aside0 (Below w0.heap.size w0 wc))
   case first =>
    have H := HC6.out
    clear HC6
    by_cases c7 : x7_1 > 0
    ·rw [if_pos c7] at H
     have c7b0 : decide (0 < x7_1) = true := decide_eq_true c7
     clear c7
     (first | rw [c7b0] | (simp only [i64_w, i32_w]; rw [c7b0]) | skip)
     have H' := am H
     clear H
     go_wp2
     repeat (go_quiet (fail); try go_wp2)
     go_meet
     case rel => exact ⟨_, (decide ((x1_1.size : Int) > 0)), (by first | rfl | (simp; done) | (simp [*]; done)), H', ⟨by have := HK1.out; first | omega | exact Nat.le_refl _⟩, ⟨by repeat (first | exact HI0.out | apply iA | apply iN | apply iD | apply i1 | apply i2)⟩, ⟨by repeat (first | exact HK.out | apply kS | apply kN | apply kD | apply kA)⟩, ⟨by repeat (with_reducible first | exact HB.out | apply bA | apply bN | apply bD | refine bS ?_ (iG HI0.out))⟩⟩
    ·rw [if_neg c7] at H
     have c7b0 : decide (0 < x7_1) = false := decide_eq_false c7
     clear c7
     (first | rw [c7b0] | (simp only [i64_w, i32_w]; rw [c7b0]) | skip)
     have H' := am H
     clear H
     go_wp2
     repeat (go_quiet (fail); try go_wp2)
     go_meet
     case rel => exact ⟨_, (false), (by first | rfl | (simp; done) | (simp [*]; done)), H', ⟨by have := HK1.out; first | omega | exact Nat.le_refl _⟩, ⟨by repeat (first | exact HI0.out | apply iA | apply iN | apply iD | apply i1 | apply i2)⟩, ⟨by repeat (first | exact HK.out | apply kS | apply kN | apply kD | apply kA)⟩, ⟨by repeat (with_reducible first | exact HB.out | apply bA | apply bN | apply bD | refine bS ?_ (iG HI0.out))⟩⟩
   case rest =>
    clear HC6
    try clear p2
    try clear p6
    try clear p2
    obtain ⟨kq, x19_5, rfl, HA, HJ5, HI0, HK, HB⟩ := hcut
    cases kq with
    | zero => exact absurd HA.out (by simp [spec_l1Cur_spoilt.j1])
    | succ kj5 =>
     have H := HA.out
     clear HA
     simp only [spec_l1Cur_spoilt.j1] at H
     by_cases c8 : x19_5 = true
     ·subst c8
      have H1 : ((spec_l1Cur_pick.f s0_0 x1001_1 x1002_1 (x1_1.size : Int)).bind fun bt471 => ((spec_l1Cur_pick.f s0_0 bt471.2.1 bt471.2.2 (a2.size : Int)).bind fun bt474 => (if 0 ≤ bt474.1 then (if bt474.1 < (a2.size : Int) then ((some (([bt a2 bt474.1] : List Int) : List Int)).bind fun y477 => ((spec_l1Cur_pick.f s0_0 bt474.2.1 bt474.2.2 3).bind fun bt480 => (if bt480.1 = 0 then (if 0 ≤ bt471.1 then (if bt471.1 ≤ (x1_1.size : Int) then (if (x1_1.extract 0 (bt471.1 : Int).toNat).size + (strOfNums y477).size ≤ 9223372036854775807 then (if ((x1_1.extract 0 (bt471.1 : Int).toNat) ++ (strOfNums y477)).size + (x1_1.extract (bt471.1 : Int).toNat x1_1.size).size ≤ 9223372036854775807 then (spec_l1Cur_spoilt.l0 kj5 (((x1_1.extract 0 (bt471.1 : Int).toNat) ++ (strOfNums y477)) ++ (x1_1.extract (bt471.1 : Int).toNat x1_1.size)) a2 (wrap64 (x7_1 - 1)) s0_0 bt480.2.1 bt480.2.2) else (none)) else (none)) else (none)) else (none)) else (if bt480.1 = 1 then (if 0 ≤ bt471.1 then (if bt471.1 ≤ (x1_1.size : Int) then (if (x1_1.extract 0 (bt471.1 : Int).toNat).size + (strOfNums y477).size ≤ 9223372036854775807 then (if 0 ≤ (wrap64 (bt471.1 + 1)) then (if (wrap64 (bt471.1 + 1)) ≤ (x1_1.size : Int) then (if ((x1_1.extract 0 (bt471.1 : Int).toNat) ++ (strOfNums y477)).size + (x1_1.extract ((wrap64 (bt471.1 + 1)) : Int).toNat x1_1.size).size ≤ 9223372036854775807 then (spec_l1Cur_spoilt.l0 kj5 (((x1_1.extract 0 (bt471.1 : Int).toNat) ++ (strOfNums y477)) ++ (x1_1.extract ((wrap64 (bt471.1 + 1)) : Int).toNat x1_1.size)) a2 (wrap64 (x7_1 - 1)) s0_0 bt480.2.1 bt480.2.2) else (none)) else (none)) else (none)) else (none)) else (none)) else (none)) else (if 0 ≤ bt471.1 then (if bt471.1 ≤ (x1_1.size : Int) then (if 0 ≤ (wrap64 (bt471.1 + 1)) then (if (wrap64 (bt471.1 + 1)) ≤ (x1_1.size : Int) then (if (x1_1.extract 0 (bt471.1 : Int).toNat).size + (x1_1.extract ((wrap64 (bt471.1 + 1)) : Int).toNat x1_1.size).size ≤ 9223372036854775807 then (spec_l1Cur_spoilt.l0 kj5 ((x1_1.extract 0 (bt471.1 : Int).toNat) ++ (x1_1.extract ((wrap64 (bt471.1 + 1)) : Int).toNat x1_1.size)) a2 (wrap64 (x7_1 - 1)) s0_0 bt480.2.1 bt480.2.2) else (none)) else (none)) else (none)) else (none)) else (none)))))) else (none)) else (none)))) = some (r1, r2, r3) := by rw [if_pos rfl] at H; exact H
      clear H
      have H := H1
      clear H1
      replace H := Option.bind_eq_some_iff.mp H
      obtain ⟨⟨t471, t472, t473⟩, A90, H⟩ := H
      replace H : ((spec_l1Cur_pick.f s0_0 t472 t473 (a2.size : Int)).bind fun bt474 => (if 0 ≤ bt474.1 then (if bt474.1 < (a2.size : Int) then ((some (([bt a2 bt474.1] : List Int) : List Int)).bind fun y477 => ((spec_l1Cur_pick.f s0_0 bt474.2.1 bt474.2.2 3).bind fun bt480 => (if bt480.1 = 0 then (if 0 ≤ t471 then (if t471 ≤ (x1_1.size : Int) then (if (x1_1.extract 0 (t471 : Int).toNat).size + (strOfNums y477).size ≤ 9223372036854775807 then (if ((x1_1.extract 0 (t471 : Int).toNat) ++ (strOfNums y477)).size + (x1_1.extract (t471 : Int).toNat x1_1.size).size ≤ 9223372036854775807 then (spec_l1Cur_spoilt.l0 kj5 (((x1_1.extract 0 (t471 : Int).toNat) ++ (strOfNums y477)) ++ (x1_1.extract (t471 : Int).toNat x1_1.size)) a2 (wrap64 (x7_1 - 1)) s0_0 bt480.2.1 bt480.2.2) else (none)) else (none)) else (none)) else (none)) else (if bt480.1 = 1 then (if 0 ≤ t471 then (if t471 ≤ (x1_1.size : Int) then (if (x1_1.extract 0 (t471 : Int).toNat).size + (strOfNums y477).size ≤ 9223372036854775807 then (if 0 ≤ (wrap64 (t471 + 1)) then (if (wrap64 (t471 + 1)) ≤ (x1_1.size : Int) then (if ((x1_1.extract 0 (t471 : Int).toNat) ++ (strOfNums y477)).size + (x1_1.extract ((wrap64 (t471 + 1)) : Int).toNat x1_1.size).size ≤ 9223372036854775807 then (spec_l1Cur_spoilt.l0 kj5 (((x1_1.extract 0 (t471 : Int).toNat) ++ (strOfNums y477)) ++ (x1_1.extract ((wrap64 (t471 + 1)) : Int).toNat x1_1.size)) a2 (wrap64 (x7_1 - 1)) s0_0 bt480.2.1 bt480.2.2) else (none)) else (none)) else (none)) else (none)) else (none)) else (none)) else (if 0 ≤ t471 then (if t471 ≤ (x1_1.size : Int) then (if 0 ≤ (wrap64 (t471 + 1)) then (if (wrap64 (t471 + 1)) ≤ (x1_1.size : Int) then (if (x1_1.extract 0 (t471 : Int).toNat).size + (x1_1.extract ((wrap64 (t471 + 1)) : Int).toNat x1_1.size).size ≤ 9223372036854775807 then (spec_l1Cur_spoilt.l0 kj5 ((x1_1.extract 0 (t471 : Int).toNat) ++ (x1_1.extract ((wrap64 (t471 + 1)) : Int).toNat x1_1.size)) a2 (wrap64 (x7_1 - 1)) s0_0 bt480.2.1 bt480.2.2) else (none)) else (none)) else (none)) else (none)) else (none)))))) else (none)) else (none))) = some (r1, r2, r3) := H
      have A9 := am A90
      clear A90
      replace H := Option.bind_eq_some_iff.mp H
      obtain ⟨⟨t474, t475, t476⟩, A100, H⟩ := H
      replace H : (if 0 ≤ t474 then (if t474 < (a2.size : Int) then ((some (([bt a2 t474] : List Int) : List Int)).bind fun y477 => ((spec_l1Cur_pick.f s0_0 t475 t476 3).bind fun bt480 => (if bt480.1 = 0 then (if 0 ≤ t471 then (if t471 ≤ (x1_1.size : Int) then (if (x1_1.extract 0 (t471 : Int).toNat).size + (strOfNums y477).size ≤ 9223372036854775807 then (if ((x1_1.extract 0 (t471 : Int).toNat) ++ (strOfNums y477)).size + (x1_1.extract (t471 : Int).toNat x1_1.size).size ≤ 9223372036854775807 then (spec_l1Cur_spoilt.l0 kj5 (((x1_1.extract 0 (t471 : Int).toNat) ++ (strOfNums y477)) ++ (x1_1.extract (t471 : Int).toNat x1_1.size)) a2 (wrap64 (x7_1 - 1)) s0_0 bt480.2.1 bt480.2.2) else (none)) else (none)) else (none)) else (none)) else (if bt480.1 = 1 then (if 0 ≤ t471 then (if t471 ≤ (x1_1.size : Int) then (if (x1_1.extract 0 (t471 : Int).toNat).size + (strOfNums y477).size ≤ 9223372036854775807 then (if 0 ≤ (wrap64 (t471 + 1)) then (if (wrap64 (t471 + 1)) ≤ (x1_1.size : Int) then (if ((x1_1.extract 0 (t471 : Int).toNat) ++ (strOfNums y477)).size + (x1_1.extract ((wrap64 (t471 + 1)) : Int).toNat x1_1.size).size ≤ 9223372036854775807 then (spec_l1Cur_spoilt.l0 kj5 (((x1_1.extract 0 (t471 : Int).toNat) ++ (strOfNums y477)) ++ (x1_1.extract ((wrap64 (t471 + 1)) : Int).toNat x1_1.size)) a2 (wrap64 (x7_1 - 1)) s0_0 bt480.2.1 bt480.2.2) else (none)) else (none)) else (none)) else (none)) else (none)) else (none)) else (if 0 ≤ t471 then (if t471 ≤ (x1_1.size : Int) then (if 0 ≤ (wrap64 (t471 + 1)) then (if (wrap64 (t471 + 1)) ≤ (x1_1.size : Int) then (if (x1_1.extract 0 (t471 : Int).toNat).size + (x1_1.extract ((wrap64 (t471 + 1)) : Int).toNat x1_1.size).size ≤ 9223372036854775807 then (spec_l1Cur_spoilt.l0 kj5 ((x1_1.extract 0 (t471 : Int).toNat) ++ (x1_1.extract ((wrap64 (t471 + 1)) : Int).toNat x1_1.size)) a2 (wrap64 (x7_1 - 1)) s0_0 bt480.2.1 bt480.2.2) else (none)) else (none)) else (none)) else (none)) else (none)))))) else (none)) else (none)) = some (r1, r2, r3) := H
      have A10 := am A100
      clear A100
      by_cases c11 : 0 ≤ t474
      ·rw [if_pos c11] at H
       have c11b0 : decide (0 ≤ t474) = true := decide_eq_true c11
       clear c11
       by_cases c12 : t474 < (a2.size : Int)
       ·rw [if_pos c12] at H
        have c12b0 : decide (t474 < (a2.size : Int)) = true := decide_eq_true c12
        clear c12
        obtain ⟨y477, hy477⟩ : ∃ y_ : List Int, y_ = (([bt a2 t474] : List Int)) := ⟨_, rfl⟩
        replace H : ((spec_l1Cur_pick.f s0_0 t475 t476 3).bind fun bt480 => (if bt480.1 = 0 then (if 0 ≤ t471 then (if t471 ≤ (x1_1.size : Int) then (if (x1_1.extract 0 (t471 : Int).toNat).size + (strOfNums y477).size ≤ 9223372036854775807 then (if ((x1_1.extract 0 (t471 : Int).toNat) ++ (strOfNums y477)).size + (x1_1.extract (t471 : Int).toNat x1_1.size).size ≤ 9223372036854775807 then (spec_l1Cur_spoilt.l0 kj5 (((x1_1.extract 0 (t471 : Int).toNat) ++ (strOfNums y477)) ++ (x1_1.extract (t471 : Int).toNat x1_1.size)) a2 (wrap64 (x7_1 - 1)) s0_0 bt480.2.1 bt480.2.2) else (none)) else (none)) else (none)) else (none)) else (if bt480.1 = 1 then (if 0 ≤ t471 then (if t471 ≤ (x1_1.size : Int) then (if (x1_1.extract 0 (t471 : Int).toNat).size + (strOfNums y477).size ≤ 9223372036854775807 then (if 0 ≤ (wrap64 (t471 + 1)) then (if (wrap64 (t471 + 1)) ≤ (x1_1.size : Int) then (if ((x1_1.extract 0 (t471 : Int).toNat) ++ (strOfNums y477)).size + (x1_1.extract ((wrap64 (t471 + 1)) : Int).toNat x1_1.size).size ≤ 9223372036854775807 then (spec_l1Cur_spoilt.l0 kj5 (((x1_1.extract 0 (t471 : Int).toNat) ++ (strOfNums y477)) ++ (x1_1.extract ((wrap64 (t471 + 1)) : Int).toNat x1_1.size)) a2 (wrap64 (x7_1 - 1)) s0_0 bt480.2.1 bt480.2.2) else (none)) else (none)) else (none)) else (none)) else (none)) else (none)) else (if 0 ≤ t471 then (if t471 ≤ (x1_1.size : Int) then (if 0 ≤ (wrap64 (t471 + 1)) then (if (wrap64 (t471 + 1)) ≤ (x1_1.size : Int) then (if (x1_1.extract 0 (t471 : Int).toNat).size + (x1_1.extract ((wrap64 (t471 + 1)) : Int).toNat x1_1.size).size ≤ 9223372036854775807 then (spec_l1Cur_spoilt.l0 kj5 ((x1_1.extract 0 (t471 : Int).toNat) ++ (x1_1.extract ((wrap64 (t471 + 1)) : Int).toNat x1_1.size)) a2 (wrap64 (x7_1 - 1)) s0_0 bt480.2.1 bt480.2.2) else (none)) else (none)) else (none)) else (none)) else (none))))) = some (r1, r2, r3) := by first | (rw [hy477]; with_reducible exact H) | (have H2_ := (Option.bind_some _ _).symm.trans H; rw [hy477]; with_reducible exact H2_) | (have H2_ := (Option.bind_some _ _).symm.trans H; with_reducible exact H2_) | with_reducible exact H | (rw [hy477]; exact H) | exact H
        have Ny477 := am hy477
        clear hy477
        replace H := Option.bind_eq_some_iff.mp H
        obtain ⟨⟨t480, t481, t482⟩, A140, H⟩ := H
        replace H : (if t480 = 0 then (if 0 ≤ t471 then (if t471 ≤ (x1_1.size : Int) then (if (x1_1.extract 0 (t471 : Int).toNat).size + (strOfNums y477).size ≤ 9223372036854775807 then (if ((x1_1.extract 0 (t471 : Int).toNat) ++ (strOfNums y477)).size + (x1_1.extract (t471 : Int).toNat x1_1.size).size ≤ 9223372036854775807 then (spec_l1Cur_spoilt.l0 kj5 (((x1_1.extract 0 (t471 : Int).toNat) ++ (strOfNums y477)) ++ (x1_1.extract (t471 : Int).toNat x1_1.size)) a2 (wrap64 (x7_1 - 1)) s0_0 t481 t482) else (none)) else (none)) else (none)) else (none)) else (if t480 = 1 then (if 0 ≤ t471 then (if t471 ≤ (x1_1.size : Int) then (if (x1_1.extract 0 (t471 : Int).toNat).size + (strOfNums y477).size ≤ 9223372036854775807 then (if 0 ≤ (wrap64 (t471 + 1)) then (if (wrap64 (t471 + 1)) ≤ (x1_1.size : Int) then (if ((x1_1.extract 0 (t471 : Int).toNat) ++ (strOfNums y477)).size + (x1_1.extract ((wrap64 (t471 + 1)) : Int).toNat x1_1.size).size ≤ 9223372036854775807 then (spec_l1Cur_spoilt.l0 kj5 (((x1_1.extract 0 (t471 : Int).toNat) ++ (strOfNums y477)) ++ (x1_1.extract ((wrap64 (t471 + 1)) : Int).toNat x1_1.size)) a2 (wrap64 (x7_1 - 1)) s0_0 t481 t482) else (none)) else (none)) else (none)) else (none)) else (none)) else (none)) else (if 0 ≤ t471 then (if t471 ≤ (x1_1.size : Int) then (if 0 ≤ (wrap64 (t471 + 1)) then (if (wrap64 (t471 + 1)) ≤ (x1_1.size : Int) then (if (x1_1.extract 0 (t471 : Int).toNat).size + (x1_1.extract ((wrap64 (t471 + 1)) : Int).toNat x1_1.size).size ≤ 9223372036854775807 then (spec_l1Cur_spoilt.l0 kj5 ((x1_1.extract 0 (t471 : Int).toNat) ++ (x1_1.extract ((wrap64 (t471 + 1)) : Int).toNat x1_1.size)) a2 (wrap64 (x7_1 - 1)) s0_0 t481 t482) else (none)) else (none)) else (none)) else (none)) else (none)))) = some (r1, r2, r3) := H
        have A14 := am A140
        clear A140
        by_cases c15 : t480 = 0
        ·rw [if_pos c15] at H
         have c15b0 : (t480 == 0) = true := beq_iff_eq.mpr c15
         have c15b1 : (t480 != 0) = false := bne_eq_false_iff_eq.mpr c15
         clear c15
         by_cases c16 : 0 ≤ t471
         ·rw [if_pos c16] at H
          have c16b0 := eq_true c16
          have c16b1 : decide (0 ≤ t471) = true := decide_eq_true c16
          clear c16
          by_cases c17 : t471 ≤ (x1_1.size : Int)
          ·rw [if_pos c17] at H
           have c17b0 := eq_true c17
           have c17b1 : decide (t471 ≤ (x1_1.size : Int)) = true := decide_eq_true c17
           clear c17
           by_cases c18 : (x1_1.extract 0 (t471 : Int).toNat).size + (strOfNums y477).size ≤ 9223372036854775807
           ·rw [if_pos c18] at H
            have c18b0 := eq_true c18
            have c18b1 : decide ((x1_1.extract 0 (t471 : Int).toNat).size + (strOfNums y477).size ≤ 9223372036854775807) = true := decide_eq_true c18
            try have c18b2 : (9223372036854775807 < (x1_1.extract 0 (t471 : Int).toNat).size + (strOfNums y477).size) = False := eq_false (Nat.not_lt.2 c18)
            have c19b0 := eq_true (ofd (by assumption) : 0 ≤ t471)
            have c20b0 := eq_true (ofd (by assumption) : t471 ≤ (x1_1.size : Int))
            by_cases c21 : ((x1_1.extract 0 (t471 : Int).toNat) ++ (strOfNums y477)).size + (x1_1.extract (t471 : Int).toNat x1_1.size).size ≤ 9223372036854775807
            ·rw [if_pos c21] at H
             have c21b0 := eq_true c21
             have c21b1 : decide (((x1_1.extract 0 (t471 : Int).toNat) ++ (strOfNums y477)).size + (x1_1.extract (t471 : Int).toNat x1_1.size).size ≤ 9223372036854775807) = true := decide_eq_true c21
             try have c21b2 : (9223372036854775807 < ((x1_1.extract 0 (t471 : Int).toNat) ++ (strOfNums y477)).size + (x1_1.extract (t471 : Int).toNat x1_1.size).size) = False := eq_false (Nat.not_lt.2 c21)
             have H' := am H
             clear H
             go_wp2_with (first | (go_at_call 46; (with_reducible refine (spec_l1Cur_pick.calls g s0_0 x1001_1 x1002_1 (x1_1.size : Int) t471 t472 t473 w0 _ ?side1 ?side2 A9.out).mono ?_); (case side1 => repeat (first | exact HI0.out | apply iA | apply iN | apply iD | apply i1 | apply i2)); (case side2 => repeat (with_reducible first | exact HB.out | apply bA | apply bN | apply bD | refine bS ?_ (iG HI0.out))); rintro e w22 ⟨rfl, hi, hb, hk⟩; replace HK := am (KeepBut.trans (by repeat (first | exact HK.out | apply kS | apply kN | apply kD | apply kA)) hk (.inl rfl)); replace HB := am (hb); replace HI0 := am (hi); (try clear hb2); (try clear hb hk hi)) | (go_at_call 46; (with_reducible refine (spec_l1Cur_pick.calls g s0_0 t472 t473 (a2.size : Int) t474 t475 t476 w0 _ ?side1 ?side2 A10.out).mono ?_); (case side1 => repeat (first | exact HI0.out | apply iA | apply iN | apply iD | apply i1 | apply i2)); (case side2 => repeat (with_reducible first | exact HB.out | apply bA | apply bN | apply bD | refine bS ?_ (iG HI0.out))); rintro e w23 ⟨rfl, hi, hb, hk⟩; replace HK := am (KeepBut.trans (by repeat (first | exact HK.out | apply kS | apply kN | apply kD | apply kA)) hk (.inl rfl)); replace HB := am (hb); replace HI0 := am (hi); (try clear hb2); (try clear hb hk hi); have p13 : 0 ≤ (t474 : Int) := ofd (by assumption); have q13 : t474 < (a2.size : Int) := ofd (by assumption); have hx13 := bt_at a2 t474; replace p13 := eq_true p13; replace q13 := eq_true q13) | ((with_reducible refine gate_dst (N := 32) rfl ?_); (try (refine gate_guard (by rfl) ?_; dsimp only)); refine Kd.R_lit (Kd.int .u8) _ 5 ?hg (N := 32) ?hd (xs := ([bt a2 t474] : List Int)) (inner := [.int .u8 (bt a2 t474)]) (ok := fun _ => True) (okp := fun _ => True) ?hr ?hp (fun _ hk => hk) trivial (Below.refl _ _) (Nat.le_refl _) (by simp) ?_; (case hd => rfl); (case hg => rfl); (case hr => first | (go_simp; done) | (go_simp; rfl)); (case hp => exact (Reps.one (show Kd.M (Kd.int .u8) _ _ _ (bt a2 t474) [.int .u8 (bt a2 t474)] from rfl) (Reps.none _ _))); intro v478 w24 ho25 hb hg_ hnew_; clear hg_ hnew_; (first | rw [← Ny477.out] at ho25 | (simp only [Int.reduceToNat] at ho25; rw [← Ny477.out] at ho25)); have HO479 := am (Kd.R_lower ho25 (keep_size (w := w) (g := g) (row := none) (by repeat (first | exact HK.out | apply kS | apply kN | apply kD | apply kA)))); replace HK := am (KeepBut.trans (by repeat (first | exact HK.out | apply kS | apply kN | apply kD | apply kA)) (KeepBut.of_below hb g none) (.inl rfl)); replace HB := am (below_step (by repeat (with_reducible first | exact HB.out | apply bA | apply bN | apply bD | refine bS ?_ (iG HI0.out))) hb); replace HI0 := am (IsS64.below (by repeat (first | exact HI0.out | apply iA | apply iN | apply iD | apply i1 | apply i2)) hb); clear hb ho25; have hcv26 := own_string (P := Try.prog) Try.underlying22 Try.underlying5 Try.underlying9 (Kd.own_of_R HO479.out)) | (go_at_call 46; (with_reducible refine (spec_l1Cur_pick.calls g s0_0 t475 t476 3 t480 t481 t482 w0 _ ?side1 ?side2 A14.out).mono ?_); (case side1 => repeat (first | exact HI0.out | apply iA | apply iN | apply iD | apply i1 | apply i2)); (case side2 => repeat (with_reducible first | exact HB.out | apply bA | apply bN | apply bD | refine bS ?_ (iG HI0.out))); rintro e w27 ⟨rfl, hi, hb, hk⟩; replace HO479 := am (Kd.R_mono (Kd.R_keep (IsS64.apart (show IsS64 w0 _ g s0_0 t475 t476 from by repeat (first | exact HI0.out | apply iA | apply iN | apply iD | apply i1 | apply i2)) (by (with_reducible repeat (first | apply rA | apply rN | apply rD)); exact HO479.out) (by decide)) hk (fun _ h => h.2)) (fun _ h => h.1)); replace HK := am (KeepBut.trans (by repeat (first | exact HK.out | apply kS | apply kN | apply kD | apply kA)) hk (.inl rfl)); replace HB := am (hb); replace HI0 := am (hi); (try clear hb2); (try clear hb hk hi)))
             repeat (go_quiet (first | (go_at_call 46; (with_reducible refine (spec_l1Cur_pick.calls g s0_0 x1001_1 x1002_1 (x1_1.size : Int) t471 t472 t473 w0 _ ?side1 ?side2 A9.out).mono ?_); (case side1 => repeat (first | exact HI0.out | apply iA | apply iN | apply iD | apply i1 | apply i2)); (case side2 => repeat (with_reducible first | exact HB.out | apply bA | apply bN | apply bD | refine bS ?_ (iG HI0.out))); rintro e w22 ⟨rfl, hi, hb, hk⟩; replace HK := am (KeepBut.trans (by repeat (first | exact HK.out | apply kS | apply kN | apply kD | apply kA)) hk (.inl rfl)); replace HB := am (hb); replace HI0 := am (hi); (try clear hb2); (try clear hb hk hi)) | (go_at_call 46; (with_reducible refine (spec_l1Cur_pick.calls g s0_0 t472 t473 (a2.size : Int) t474 t475 t476 w0 _ ?side1 ?side2 A10.out).mono ?_); (case side1 => repeat (first | exact HI0.out | apply iA | apply iN | apply iD | apply i1 | apply i2)); (case side2 => repeat (with_reducible first | exact HB.out | apply bA | apply bN | apply bD | refine bS ?_ (iG HI0.out))); rintro e w23 ⟨rfl, hi, hb, hk⟩; replace HK := am (KeepBut.trans (by repeat (first | exact HK.out | apply kS | apply kN | apply kD | apply kA)) hk (.inl rfl)); replace HB := am (hb); replace HI0 := am (hi); (try clear hb2); (try clear hb hk hi); have p13 : 0 ≤ (t474 : Int) := ofd (by assumption); have q13 : t474 < (a2.size : Int) := ofd (by assumption); have hx13 := bt_at a2 t474; replace p13 := eq_true p13; replace q13 := eq_true q13) | ((with_reducible refine gate_dst (N := 32) rfl ?_); (try (refine gate_guard (by rfl) ?_; dsimp only)); refine Kd.R_lit (Kd.int .u8) _ 5 ?hg (N := 32) ?hd (xs := ([bt a2 t474] : List Int)) (inner := [.int .u8 (bt a2 t474)]) (ok := fun _ => True) (okp := fun _ => True) ?hr ?hp (fun _ hk => hk) trivial (Below.refl _ _) (Nat.le_refl _) (by simp) ?_; (case hd => rfl); (case hg => rfl); (case hr => first | (go_simp; done) | (go_simp; rfl)); (case hp => exact (Reps.one (show Kd.M (Kd.int .u8) _ _ _ (bt a2 t474) [.int .u8 (bt a2 t474)] from rfl) (Reps.none _ _))); intro v478 w24 ho25 hb hg_ hnew_; clear hg_ hnew_; (first | rw [← Ny477.out] at ho25 | (simp only [Int.reduceToNat] at ho25; rw [← Ny477.out] at ho25)); have HO479 := am (Kd.R_lower ho25 (keep_size (w := w) (g := g) (row := none) (by repeat (first | exact HK.out | apply kS | apply kN | apply kD | apply kA)))); replace HK := am (KeepBut.trans (by repeat (first | exact HK.out | apply kS | apply kN | apply kD | apply kA)) (KeepBut.of_below hb g none) (.inl rfl)); replace HB := am (below_step (by repeat (with_reducible first | exact HB.out | apply bA | apply bN | apply bD | refine bS ?_ (iG HI0.out))) hb); replace HI0 := am (IsS64.below (by repeat (first | exact HI0.out | apply iA | apply iN | apply iD | apply i1 | apply i2)) hb); clear hb ho25; have hcv26 := own_string (P := Try.prog) Try.underlying22 Try.underlying5 Try.underlying9 (Kd.own_of_R HO479.out)) | (go_at_call 46; (with_reducible refine (spec_l1Cur_pick.calls g s0_0 t475 t476 3 t480 t481 t482 w0 _ ?side1 ?side2 A14.out).mono ?_); (case side1 => repeat (first | exact HI0.out | apply iA | apply iN | apply iD | apply i1 | apply i2)); (case side2 => repeat (with_reducible first | exact HB.out | apply bA | apply bN | apply bD | refine bS ?_ (iG HI0.out))); rintro e w27 ⟨rfl, hi, hb, hk⟩; replace HO479 := am (Kd.R_mono (Kd.R_keep (IsS64.apart (show IsS64 w0 _ g s0_0 t475 t476 from by repeat (first | exact HI0.out | apply iA | apply iN | apply iD | apply i1 | apply i2)) (by (with_reducible repeat (first | apply rA | apply rN | apply rD)); exact HO479.out) (by decide)) hk (fun _ h => h.2)) (fun _ h => h.1)); replace HK := am (KeepBut.trans (by repeat (first | exact HK.out | apply kS | apply kN | apply kD | apply kA)) hk (.inl rfl)); replace HB := am (hb); replace HI0 := am (hi); (try clear hb2); (try clear hb hk hi))); try go_wp2_with (first | (go_at_call 46; (with_reducible refine (spec_l1Cur_pick.calls g s0_0 x1001_1 x1002_1 (x1_1.size : Int) t471 t472 t473 w0 _ ?side1 ?side2 A9.out).mono ?_); (case side1 => repeat (first | exact HI0.out | apply iA | apply iN | apply iD | apply i1 | apply i2)); (case side2 => repeat (with_reducible first | exact HB.out | apply bA | apply bN | apply bD | refine bS ?_ (iG HI0.out))); rintro e w22 ⟨rfl, hi, hb, hk⟩; replace HK := am (KeepBut.trans (by repeat (first | exact HK.out | apply kS | apply kN | apply kD | apply kA)) hk (.inl rfl)); replace HB := am (hb); replace HI0 := am (hi); (try clear hb2); (try clear hb hk hi)) | (go_at_call 46; (with_reducible refine (spec_l1Cur_pick.calls g s0_0 t472 t473 (a2.size : Int) t474 t475 t476 w0 _ ?side1 ?side2 A10.out).mono ?_); (case side1 => repeat (first | exact HI0.out | apply iA | apply iN | apply iD | apply i1 | apply i2)); (case side2 => repeat (with_reducible first | exact HB.out | apply bA | apply bN | apply bD | refine bS ?_ (iG HI0.out))); rintro e w23 ⟨rfl, hi, hb, hk⟩; replace HK := am (KeepBut.trans (by repeat (first | exact HK.out | apply kS | apply kN | apply kD | apply kA)) hk (.inl rfl)); replace HB := am (hb); replace HI0 := am (hi); (try clear hb2); (try clear hb hk hi); have p13 : 0 ≤ (t474 : Int) := ofd (by assumption); have q13 : t474 < (a2.size : Int) := ofd (by assumption); have hx13 := bt_at a2 t474; replace p13 := eq_true p13; replace q13 := eq_true q13) | ((with_reducible refine gate_dst (N := 32) rfl ?_); (try (refine gate_guard (by rfl) ?_; dsimp only)); refine Kd.R_lit (Kd.int .u8) _ 5 ?hg (N := 32) ?hd (xs := ([bt a2 t474] : List Int)) (inner := [.int .u8 (bt a2 t474)]) (ok := fun _ => True) (okp := fun _ => True) ?hr ?hp (fun _ hk => hk) trivial (Below.refl _ _) (Nat.le_refl _) (by simp) ?_; (case hd => rfl); (case hg => rfl); (case hr => first | (go_simp; done) | (go_simp; rfl)); (case hp => exact (Reps.one (show Kd.M (Kd.int .u8) _ _ _ (bt a2 t474) [.int .u8 (bt a2 t474)] from rfl) (Reps.none _ _))); intro v478 w24 ho25 hb hg_ hnew_; clear hg_ hnew_; (first | rw [← Ny477.out] at ho25 | (simp only [Int.reduceToNat] at ho25; rw [← Ny477.out] at ho25)); have HO479 := am (Kd.R_lower ho25 (keep_size (w := w) (g := g) (row := none) (by repeat (first | exact HK.out | apply kS | apply kN | apply kD | apply kA)))); replace HK := am (KeepBut.trans (by repeat (first | exact HK.out | apply kS | apply kN | apply kD | apply kA)) (KeepBut.of_below hb g none) (.inl rfl)); replace HB := am (below_step (by repeat (with_reducible first | exact HB.out | apply bA | apply bN | apply bD | refine bS ?_ (iG HI0.out))) hb); replace HI0 := am (IsS64.below (by repeat (first | exact HI0.out | apply iA | apply iN | apply iD | apply i1 | apply i2)) hb); clear hb ho25; have hcv26 := own_string (P := Try.prog) Try.underlying22 Try.underlying5 Try.underlying9 (Kd.own_of_R HO479.out)) | (go_at_call 46; (with_reducible refine (spec_l1Cur_pick.calls g s0_0 t475 t476 3 t480 t481 t482 w0 _ ?side1 ?side2 A14.out).mono ?_); (case side1 => repeat (first | exact HI0.out | apply iA | apply iN | apply iD | apply i1 | apply i2)); (case side2 => repeat (with_reducible first | exact HB.out | apply bA | apply bN | apply bD | refine bS ?_ (iG HI0.out))); rintro e w27 ⟨rfl, hi, hb, hk⟩; replace HO479 := am (Kd.R_mono (Kd.R_keep (IsS64.apart (show IsS64 w0 _ g s0_0 t475 t476 from by repeat (first | exact HI0.out | apply iA | apply iN | apply iD | apply i1 | apply i2)) (by (with_reducible repeat (first | apply rA | apply rN | apply rD)); exact HO479.out) (by decide)) hk (fun _ h => h.2)) (fun _ h => h.1)); replace HK := am (KeepBut.trans (by repeat (first | exact HK.out | apply kS | apply kN | apply kD | apply kA)) hk (.inl rfl)); replace HB := am (hb); replace HI0 := am (hi); (try clear hb2); (try clear hb hk hi))))
             go_roundg kj5
             case measure => have := HK1.out; have := HJ5.out; omega
             case rel => exact ⟨(((x1_1.extract 0 (t471 : Int).toNat) ++ (strOfNums y477)) ++ (x1_1.extract (t471 : Int).toNat x1_1.size)), (wrap64 (x7_1 - 1)), (t481), (t482), (by first | rfl | (simp; done) | (simp [*]; done)), (by first | rfl | (simp; done) | (simp [*]; done)), H', ⟨by have := HK1.out; have := HJ5.out; omega⟩, ⟨by repeat (first | exact HI0.out | apply iA | apply iN | apply iD | apply i1 | apply i2)⟩, ⟨by repeat (first | exact HK.out | apply kS | apply kN | apply kD | apply kA)⟩, ⟨by repeat (with_reducible first | exact HB.out | apply bA | apply bN | apply bD | refine bS ?_ (iG HI0.out))⟩⟩
            ·rw [if_neg c21] at H
             exact absurd H (by simp)
           ·rw [if_neg c18] at H
            exact absurd H (by simp)
          ·rw [if_neg c17] at H
           exact absurd H (by simp)
         ·rw [if_neg c16] at H
          exact absurd H (by simp)
        ·rw [if_neg c15] at H
         have c15b0 : (t480 == 0) = false := beq_eq_false_iff_ne.mpr c15
         have c15b1 : (t480 != 0) = true := bne_iff_ne.mpr c15
         by_cases c28 : t480 = 1
         ·rw [if_pos c28] at H
          have c28b0 : (t480 == 1) = true := beq_iff_eq.mpr c28
          have c28b1 : (t480 != 1) = false := bne_eq_false_iff_eq.mpr c28
          clear c28
          by_cases c29 : 0 ≤ t471
          ·rw [if_pos c29] at H
           have c29b0 := eq_true c29
           have c29b1 : decide (0 ≤ t471) = true := decide_eq_true c29
           clear c29
           by_cases c30 : t471 ≤ (x1_1.size : Int)
           ·rw [if_pos c30] at H
            have c30b0 := eq_true c30
            have c30b1 : decide (t471 ≤ (x1_1.size : Int)) = true := decide_eq_true c30
            clear c30
            by_cases c31 : (x1_1.extract 0 (t471 : Int).toNat).size + (strOfNums y477).size ≤ 9223372036854775807
            ·rw [if_pos c31] at H
             have c31b0 := eq_true c31
             have c31b1 : decide ((x1_1.extract 0 (t471 : Int).toNat).size + (strOfNums y477).size ≤ 9223372036854775807) = true := decide_eq_true c31
             try have c31b2 : (9223372036854775807 < (x1_1.extract 0 (t471 : Int).toNat).size + (strOfNums y477).size) = False := eq_false (Nat.not_lt.2 c31)
             obtain ⟨ji32, hji32⟩ : ∃ j_ : Int, (wrap64 (t471 + 1)) = j_ := ⟨_, rfl⟩
             replace H : (if 0 ≤ (ji32) then (if (ji32) ≤ (x1_1.size : Int) then (if ((x1_1.extract 0 (t471 : Int).toNat) ++ (strOfNums y477)).size + (x1_1.extract ((ji32) : Int).toNat x1_1.size).size ≤ 9223372036854775807 then (spec_l1Cur_spoilt.l0 kj5 (((x1_1.extract 0 (t471 : Int).toNat) ++ (strOfNums y477)) ++ (x1_1.extract ((ji32) : Int).toNat x1_1.size)) a2 (wrap64 (x7_1 - 1)) s0_0 t481 t482) else (none)) else (none)) else (none)) = some (r1, r2, r3) := by first | (rw [hji32] at H; exact H) | (simp only [hji32] at H ⊢; exact H)
             (try rw [hji32] at A9)
             (try rw [hji32] at A10)
             (try rw [hji32] at A14)
             have hji32w : (IntKind.i64.wrap (t471 + 1)) = ji32 := (i64_w _).trans hji32
             by_cases c33 : 0 ≤ (ji32)
             ·rw [if_pos c33] at H
              have c33b0 := eq_true c33
              have c33b1 : decide (0 ≤ (ji32)) = true := decide_eq_true c33
              clear c33
              by_cases c34 : (ji32) ≤ (x1_1.size : Int)
              ·rw [if_pos c34] at H
               have c34b0 := eq_true c34
               have c34b1 : decide ((ji32) ≤ (x1_1.size : Int)) = true := decide_eq_true c34
               clear c34
               by_cases c35 : ((x1_1.extract 0 (t471 : Int).toNat) ++ (strOfNums y477)).size + (x1_1.extract ((ji32) : Int).toNat x1_1.size).size ≤ 9223372036854775807
               ·rw [if_pos c35] at H
                have c35b0 := eq_true c35
                have c35b1 : decide (((x1_1.extract 0 (t471 : Int).toNat) ++ (strOfNums y477)).size + (x1_1.extract ((ji32) : Int).toNat x1_1.size).size ≤ 9223372036854775807) = true := decide_eq_true c35
                try have c35b2 : (9223372036854775807 < ((x1_1.extract 0 (t471 : Int).toNat) ++ (strOfNums y477)).size + (x1_1.extract ((ji32) : Int).toNat x1_1.size).size) = False := eq_false (Nat.not_lt.2 c35)
                have H' := am H
                clear H
                go_wp2_with (first | (go_at_call 46; (with_reducible refine (spec_l1Cur_pick.calls g s0_0 x1001_1 x1002_1 (x1_1.size : Int) t471 t472 t473 w0 _ ?side1 ?side2 A9.out).mono ?_); (case side1 => repeat (first | exact HI0.out | apply iA | apply iN | apply iD | apply i1 | apply i2)); (case side2 => repeat (with_reducible first | exact HB.out | apply bA | apply bN | apply bD | refine bS ?_ (iG HI0.out))); rintro e w36 ⟨rfl, hi, hb, hk⟩; replace HK := am (KeepBut.trans (by repeat (first | exact HK.out | apply kS | apply kN | apply kD | apply kA)) hk (.inl rfl)); replace HB := am (hb); replace HI0 := am (hi); (try clear hb2); (try clear hb hk hi)) | (go_at_call 46; (with_reducible refine (spec_l1Cur_pick.calls g s0_0 t472 t473 (a2.size : Int) t474 t475 t476 w0 _ ?side1 ?side2 A10.out).mono ?_); (case side1 => repeat (first | exact HI0.out | apply iA | apply iN | apply iD | apply i1 | apply i2)); (case side2 => repeat (with_reducible first | exact HB.out | apply bA | apply bN | apply bD | refine bS ?_ (iG HI0.out))); rintro e w37 ⟨rfl, hi, hb, hk⟩; replace HK := am (KeepBut.trans (by repeat (first | exact HK.out | apply kS | apply kN | apply kD | apply kA)) hk (.inl rfl)); replace HB := am (hb); replace HI0 := am (hi); (try clear hb2); (try clear hb hk hi); have p13 : 0 ≤ (t474 : Int) := ofd (by assumption); have q13 : t474 < (a2.size : Int) := ofd (by assumption); have hx13 := bt_at a2 t474; replace p13 := eq_true p13; replace q13 := eq_true q13) | ((with_reducible refine gate_dst (N := 32) rfl ?_); (try (refine gate_guard (by rfl) ?_; dsimp only)); refine Kd.R_lit (Kd.int .u8) _ 5 ?hg (N := 32) ?hd (xs := ([bt a2 t474] : List Int)) (inner := [.int .u8 (bt a2 t474)]) (ok := fun _ => True) (okp := fun _ => True) ?hr ?hp (fun _ hk => hk) trivial (Below.refl _ _) (Nat.le_refl _) (by simp) ?_; (case hd => rfl); (case hg => rfl); (case hr => first | (go_simp; done) | (go_simp; rfl)); (case hp => exact (Reps.one (show Kd.M (Kd.int .u8) _ _ _ (bt a2 t474) [.int .u8 (bt a2 t474)] from rfl) (Reps.none _ _))); intro v478 w38 ho39 hb hg_ hnew_; clear hg_ hnew_; (first | rw [← Ny477.out] at ho39 | (simp only [Int.reduceToNat] at ho39; rw [← Ny477.out] at ho39)); have HO479 := am (Kd.R_lower ho39 (keep_size (w := w) (g := g) (row := none) (by repeat (first | exact HK.out | apply kS | apply kN | apply kD | apply kA)))); replace HK := am (KeepBut.trans (by repeat (first | exact HK.out | apply kS | apply kN | apply kD | apply kA)) (KeepBut.of_below hb g none) (.inl rfl)); replace HB := am (below_step (by repeat (with_reducible first | exact HB.out | apply bA | apply bN | apply bD | refine bS ?_ (iG HI0.out))) hb); replace HI0 := am (IsS64.below (by repeat (first | exact HI0.out | apply iA | apply iN | apply iD | apply i1 | apply i2)) hb); clear hb ho39; have hcv40 := own_string (P := Try.prog) Try.underlying22 Try.underlying5 Try.underlying9 (Kd.own_of_R HO479.out)) | (go_at_call 46; (with_reducible refine (spec_l1Cur_pick.calls g s0_0 t475 t476 3 t480 t481 t482 w0 _ ?side1 ?side2 A14.out).mono ?_); (case side1 => repeat (first | exact HI0.out | apply iA | apply iN | apply iD | apply i1 | apply i2)); (case side2 => repeat (with_reducible first | exact HB.out | apply bA | apply bN | apply bD | refine bS ?_ (iG HI0.out))); rintro e w41 ⟨rfl, hi, hb, hk⟩; replace HO479 := am (Kd.R_mono (Kd.R_keep (IsS64.apart (show IsS64 w0 _ g s0_0 t475 t476 from by repeat (first | exact HI0.out | apply iA | apply iN | apply iD | apply i1 | apply i2)) (by (with_reducible repeat (first | apply rA | apply rN | apply rD)); exact HO479.out) (by decide)) hk (fun _ h => h.2)) (fun _ h => h.1)); replace HK := am (KeepBut.trans (by repeat (first | exact HK.out | apply kS | apply kN | apply kD | apply kA)) hk (.inl rfl)); replace HB := am (hb); replace HI0 := am (hi); (try clear hb2); (try clear hb hk hi)))
                repeat (go_quiet (first | (go_at_call 46; (with_reducible refine (spec_l1Cur_pick.calls g s0_0 x1001_1 x1002_1 (x1_1.size : Int) t471 t472 t473 w0 _ ?side1 ?side2 A9.out).mono ?_); (case side1 => repeat (first | exact HI0.out | apply iA | apply iN | apply iD | apply i1 | apply i2)); (case side2 => repeat (with_reducible first | exact HB.out | apply bA | apply bN | apply bD | refine bS ?_ (iG HI0.out))); rintro e w36 ⟨rfl, hi, hb, hk⟩; replace HK := am (KeepBut.trans (by repeat (first | exact HK.out | apply kS | apply kN | apply kD | apply kA)) hk (.inl rfl)); replace HB := am (hb); replace HI0 := am (hi); (try clear hb2); (try clear hb hk hi)) | (go_at_call 46; (with_reducible refine (spec_l1Cur_pick.calls g s0_0 t472 t473 (a2.size : Int) t474 t475 t476 w0 _ ?side1 ?side2 A10.out).mono ?_); (case side1 => repeat (first | exact HI0.out | apply iA | apply iN | apply iD | apply i1 | apply i2)); (case side2 => repeat (with_reducible first | exact HB.out | apply bA | apply bN | apply bD | refine bS ?_ (iG HI0.out))); rintro e w37 ⟨rfl, hi, hb, hk⟩; replace HK := am (KeepBut.trans (by repeat (first | exact HK.out | apply kS | apply kN | apply kD | apply kA)) hk (.inl rfl)); replace HB := am (hb); replace HI0 := am (hi); (try clear hb2); (try clear hb hk hi); have p13 : 0 ≤ (t474 : Int) := ofd (by assumption); have q13 : t474 < (a2.size : Int) := ofd (by assumption); have hx13 := bt_at a2 t474; replace p13 := eq_true p13; replace q13 := eq_true q13) | ((with_reducible refine gate_dst (N := 32) rfl ?_); (try (refine gate_guard (by rfl) ?_; dsimp only)); refine Kd.R_lit (Kd.int .u8) _ 5 ?hg (N := 32) ?hd (xs := ([bt a2 t474] : List Int)) (inner := [.int .u8 (bt a2 t474)]) (ok := fun _ => True) (okp := fun _ => True) ?hr ?hp (fun _ hk => hk) trivial (Below.refl _ _) (Nat.le_refl _) (by simp) ?_; (case hd => rfl); (case hg => rfl); (case hr => first | (go_simp; done) | (go_simp; rfl)); (case hp => exact (Reps.one (show Kd.M (Kd.int .u8) _ _ _ (bt a2 t474) [.int .u8 (bt a2 t474)] from rfl) (Reps.none _ _))); intro v478 w38 ho39 hb hg_ hnew_; clear hg_ hnew_; (first | rw [← Ny477.out] at ho39 | (simp only [Int.reduceToNat] at ho39; rw [← Ny477.out] at ho39)); have HO479 := am (Kd.R_lower ho39 (keep_size (w := w) (g := g) (row := none) (by repeat (first | exact HK.out | apply kS | apply kN | apply kD | apply kA)))); replace HK := am (KeepBut.trans (by repeat (first | exact HK.out | apply kS | apply kN | apply kD | apply kA)) (KeepBut.of_below hb g none) (.inl rfl)); replace HB := am (below_step (by repeat (with_reducible first | exact HB.out | apply bA | apply bN | apply bD | refine bS ?_ (iG HI0.out))) hb); replace HI0 := am (IsS64.below (by repeat (first | exact HI0.out | apply iA | apply iN | apply iD | apply i1 | apply i2)) hb); clear hb ho39; have hcv40 := own_string (P := Try.prog) Try.underlying22 Try.underlying5 Try.underlying9 (Kd.own_of_R HO479.out)) | (go_at_call 46; (with_reducible refine (spec_l1Cur_pick.calls g s0_0 t475 t476 3 t480 t481 t482 w0 _ ?side1 ?side2 A14.out).mono ?_); (case side1 => repeat (first | exact HI0.out | apply iA | apply iN | apply iD | apply i1 | apply i2)); (case side2 => repeat (with_reducible first | exact HB.out | apply bA | apply bN | apply bD | refine bS ?_ (iG HI0.out))); rintro e w41 ⟨rfl, hi, hb, hk⟩; replace HO479 := am (Kd.R_mono (Kd.R_keep (IsS64.apart (show IsS64 w0 _ g s0_0 t475 t476 from by repeat (first | exact HI0.out | apply iA | apply iN | apply iD | apply i1 | apply i2)) (by (with_reducible repeat (first | apply rA | apply rN | apply rD)); exact HO479.out) (by decide)) hk (fun _ h => h.2)) (fun _ h => h.1)); replace HK := am (KeepBut.trans (by repeat (first | exact HK.out | apply kS | apply kN | apply kD | apply kA)) hk (.inl rfl)); replace HB := am (hb); replace HI0 := am (hi); (try clear hb2); (try clear hb hk hi))); try go_wp2_with (first | (go_at_call 46; (with_reducible refine (spec_l1Cur_pick.calls g s0_0 x1001_1 x1002_1 (x1_1.size : Int) t471 t472 t473 w0 _ ?side1 ?side2 A9.out).mono ?_); (case side1 => repeat (first | exact HI0.out | apply iA | apply iN | apply iD | apply i1 | apply i2)); (case side2 => repeat (with_reducible first | exact HB.out | apply bA | apply bN | apply bD | refine bS ?_ (iG HI0.out))); rintro e w36 ⟨rfl, hi, hb, hk⟩; replace HK := am (KeepBut.trans (by repeat (first | exact HK.out | apply kS | apply kN | apply kD | apply kA)) hk (.inl rfl)); replace HB := am (hb); replace HI0 := am (hi); (try clear hb2); (try clear hb hk hi)) | (go_at_call 46; (with_reducible refine (spec_l1Cur_pick.calls g s0_0 t472 t473 (a2.size : Int) t474 t475 t476 w0 _ ?side1 ?side2 A10.out).mono ?_); (case side1 => repeat (first | exact HI0.out | apply iA | apply iN | apply iD | apply i1 | apply i2)); (case side2 => repeat (with_reducible first | exact HB.out | apply bA | apply bN | apply bD | refine bS ?_ (iG HI0.out))); rintro e w37 ⟨rfl, hi, hb, hk⟩; replace HK := am (KeepBut.trans (by repeat (first | exact HK.out | apply kS | apply kN | apply kD | apply kA)) hk (.inl rfl)); replace HB := am (hb); replace HI0 := am (hi); (try clear hb2); (try clear hb hk hi); have p13 : 0 ≤ (t474 : Int) := ofd (by assumption); have q13 : t474 < (a2.size : Int) := ofd (by assumption); have hx13 := bt_at a2 t474; replace p13 := eq_true p13; replace q13 := eq_true q13) | ((with_reducible refine gate_dst (N := 32) rfl ?_); (try (refine gate_guard (by rfl) ?_; dsimp only)); refine Kd.R_lit (Kd.int .u8) _ 5 ?hg (N := 32) ?hd (xs := ([bt a2 t474] : List Int)) (inner := [.int .u8 (bt a2 t474)]) (ok := fun _ => True) (okp := fun _ => True) ?hr ?hp (fun _ hk => hk) trivial (Below.refl _ _) (Nat.le_refl _) (by simp) ?_; (case hd => rfl); (case hg => rfl); (case hr => first | (go_simp; done) | (go_simp; rfl)); (case hp => exact (Reps.one (show Kd.M (Kd.int .u8) _ _ _ (bt a2 t474) [.int .u8 (bt a2 t474)] from rfl) (Reps.none _ _))); intro v478 w38 ho39 hb hg_ hnew_; clear hg_ hnew_; (first | rw [← Ny477.out] at ho39 | (simp only [Int.reduceToNat] at ho39; rw [← Ny477.out] at ho39)); have HO479 := am (Kd.R_lower ho39 (keep_size (w := w) (g := g) (row := none) (by repeat (first | exact HK.out | apply kS | apply kN | apply kD | apply kA)))); replace HK := am (KeepBut.trans (by repeat (first | exact HK.out | apply kS | apply kN | apply kD | apply kA)) (KeepBut.of_below hb g none) (.inl rfl)); replace HB := am (below_step (by repeat (with_reducible first | exact HB.out | apply bA | apply bN | apply bD | refine bS ?_ (iG HI0.out))) hb); replace HI0 := am (IsS64.below (by repeat (first | exact HI0.out | apply iA | apply iN | apply iD | apply i1 | apply i2)) hb); clear hb ho39; have hcv40 := own_string (P := Try.prog) Try.underlying22 Try.underlying5 Try.underlying9 (Kd.own_of_R HO479.out)) | (go_at_call 46; (with_reducible refine (spec_l1Cur_pick.calls g s0_0 t475 t476 3 t480 t481 t482 w0 _ ?side1 ?side2 A14.out).mono ?_); (case side1 => repeat (first | exact HI0.out | apply iA | apply iN | apply iD | apply i1 | apply i2)); (case side2 => repeat (with_reducible first | exact HB.out | apply bA | apply bN | apply bD | refine bS ?_ (iG HI0.out))); rintro e w41 ⟨rfl, hi, hb, hk⟩; replace HO479 := am (Kd.R_mono (Kd.R_keep (IsS64.apart (show IsS64 w0 _ g s0_0 t475 t476 from by repeat (first | exact HI0.out | apply iA | apply iN | apply iD | apply i1 | apply i2)) (by (with_reducible repeat (first | apply rA | apply rN | apply rD)); exact HO479.out) (by decide)) hk (fun _ h => h.2)) (fun _ h => h.1)); replace HK := am (KeepBut.trans (by repeat (first | exact HK.out | apply kS | apply kN | apply kD | apply kA)) hk (.inl rfl)); replace HB := am (hb); replace HI0 := am (hi); (try clear hb2); (try clear hb hk hi))))
                go_roundg kj5
                case measure => have := HK1.out; have := HJ5.out; omega
                case rel => exact ⟨(((x1_1.extract 0 (t471 : Int).toNat) ++ (strOfNums y477)) ++ (x1_1.extract ((ji32) : Int).toNat x1_1.size)), (wrap64 (x7_1 - 1)), (t481), (t482), (by first | rfl | (simp; done) | (simp only [← hji32] <;> (first | rfl | simp)) | (simp [*]; done)), (by first | rfl | (simp; done) | (simp [*]; done)), H', ⟨by have := HK1.out; have := HJ5.out; omega⟩, ⟨by repeat (first | exact HI0.out | apply iA | apply iN | apply iD | apply i1 | apply i2)⟩, ⟨by repeat (first | exact HK.out | apply kS | apply kN | apply kD | apply kA)⟩, ⟨by repeat (with_reducible first | exact HB.out | apply bA | apply bN | apply bD | refine bS ?_ (iG HI0.out))⟩⟩
               ·rw [if_neg c35] at H
                exact absurd H (by simp)
              ·rw [if_neg c34] at H
               exact absurd H (by simp)
             ·rw [if_neg c33] at H
              exact absurd H (by simp)
            ·rw [if_neg c31] at H
             exact absurd H (by simp)
           ·rw [if_neg c30] at H
            exact absurd H (by simp)
          ·rw [if_neg c29] at H
           exact absurd H (by simp)
         ·rw [if_neg c28] at H
          have c28b0 : (t480 == 1) = false := beq_eq_false_iff_ne.mpr c28
          have c28b1 : (t480 != 1) = true := bne_iff_ne.mpr c28
          by_cases c42 : 0 ≤ t471
          ·rw [if_pos c42] at H
           have c42b0 := eq_true c42
           have c42b1 : decide (0 ≤ t471) = true := decide_eq_true c42
           clear c42
           by_cases c43 : t471 ≤ (x1_1.size : Int)
           ·rw [if_pos c43] at H
            have c43b0 := eq_true c43
            have c43b1 : decide (t471 ≤ (x1_1.size : Int)) = true := decide_eq_true c43
            clear c43
            obtain ⟨ji44, hji44⟩ : ∃ j_ : Int, (wrap64 (t471 + 1)) = j_ := ⟨_, rfl⟩
            replace H : (if 0 ≤ (ji44) then (if (ji44) ≤ (x1_1.size : Int) then (if (x1_1.extract 0 (t471 : Int).toNat).size + (x1_1.extract ((ji44) : Int).toNat x1_1.size).size ≤ 9223372036854775807 then (spec_l1Cur_spoilt.l0 kj5 ((x1_1.extract 0 (t471 : Int).toNat) ++ (x1_1.extract ((ji44) : Int).toNat x1_1.size)) a2 (wrap64 (x7_1 - 1)) s0_0 t481 t482) else (none)) else (none)) else (none)) = some (r1, r2, r3) := by first | (rw [hji44] at H; exact H) | (simp only [hji44] at H ⊢; exact H)
            (try rw [hji44] at A9)
            (try rw [hji44] at A10)
            (try rw [hji44] at A14)
            have hji44w : (IntKind.i64.wrap (t471 + 1)) = ji44 := (i64_w _).trans hji44
            by_cases c45 : 0 ≤ (ji44)
            ·rw [if_pos c45] at H
             have c45b0 := eq_true c45
             have c45b1 : decide (0 ≤ (ji44)) = true := decide_eq_true c45
             clear c45
             by_cases c46 : (ji44) ≤ (x1_1.size : Int)
             ·rw [if_pos c46] at H
              have c46b0 := eq_true c46
              have c46b1 : decide ((ji44) ≤ (x1_1.size : Int)) = true := decide_eq_true c46
              clear c46
              by_cases c47 : (x1_1.extract 0 (t471 : Int).toNat).size + (x1_1.extract ((ji44) : Int).toNat x1_1.size).size ≤ 9223372036854775807
              ·rw [if_pos c47] at H
               have c47b0 := eq_true c47
               have c47b1 : decide ((x1_1.extract 0 (t471 : Int).toNat).size + (x1_1.extract ((ji44) : Int).toNat x1_1.size).size ≤ 9223372036854775807) = true := decide_eq_true c47
               try have c47b2 : (9223372036854775807 < (x1_1.extract 0 (t471 : Int).toNat).size + (x1_1.extract ((ji44) : Int).toNat x1_1.size).size) = False := eq_false (Nat.not_lt.2 c47)
               have H' := am H
               clear H
               go_wp2_with (first | (go_at_call 46; (with_reducible refine (spec_l1Cur_pick.calls g s0_0 x1001_1 x1002_1 (x1_1.size : Int) t471 t472 t473 w0 _ ?side1 ?side2 A9.out).mono ?_); (case side1 => repeat (first | exact HI0.out | apply iA | apply iN | apply iD | apply i1 | apply i2)); (case side2 => repeat (with_reducible first | exact HB.out | apply bA | apply bN | apply bD | refine bS ?_ (iG HI0.out))); rintro e w48 ⟨rfl, hi, hb, hk⟩; replace HK := am (KeepBut.trans (by repeat (first | exact HK.out | apply kS | apply kN | apply kD | apply kA)) hk (.inl rfl)); replace HB := am (hb); replace HI0 := am (hi); (try clear hb2); (try clear hb hk hi)) | (go_at_call 46; (with_reducible refine (spec_l1Cur_pick.calls g s0_0 t472 t473 (a2.size : Int) t474 t475 t476 w0 _ ?side1 ?side2 A10.out).mono ?_); (case side1 => repeat (first | exact HI0.out | apply iA | apply iN | apply iD | apply i1 | apply i2)); (case side2 => repeat (with_reducible first | exact HB.out | apply bA | apply bN | apply bD | refine bS ?_ (iG HI0.out))); rintro e w49 ⟨rfl, hi, hb, hk⟩; replace HK := am (KeepBut.trans (by repeat (first | exact HK.out | apply kS | apply kN | apply kD | apply kA)) hk (.inl rfl)); replace HB := am (hb); replace HI0 := am (hi); (try clear hb2); (try clear hb hk hi); have p13 : 0 ≤ (t474 : Int) := ofd (by assumption); have q13 : t474 < (a2.size : Int) := ofd (by assumption); have hx13 := bt_at a2 t474; replace p13 := eq_true p13; replace q13 := eq_true q13) | ((with_reducible refine gate_dst (N := 32) rfl ?_); (try (refine gate_guard (by rfl) ?_; dsimp only)); refine Kd.R_lit (Kd.int .u8) _ 5 ?hg (N := 32) ?hd (xs := ([bt a2 t474] : List Int)) (inner := [.int .u8 (bt a2 t474)]) (ok := fun _ => True) (okp := fun _ => True) ?hr ?hp (fun _ hk => hk) trivial (Below.refl _ _) (Nat.le_refl _) (by simp) ?_; (case hd => rfl); (case hg => rfl); (case hr => first | (go_simp; done) | (go_simp; rfl)); (case hp => exact (Reps.one (show Kd.M (Kd.int .u8) _ _ _ (bt a2 t474) [.int .u8 (bt a2 t474)] from rfl) (Reps.none _ _))); intro v478 w50 ho51 hb hg_ hnew_; clear hg_ hnew_; (first | rw [← Ny477.out] at ho51 | (simp only [Int.reduceToNat] at ho51; rw [← Ny477.out] at ho51)); have HO479 := am (Kd.R_lower ho51 (keep_size (w := w) (g := g) (row := none) (by repeat (first | exact HK.out | apply kS | apply kN | apply kD | apply kA)))); replace HK := am (KeepBut.trans (by repeat (first | exact HK.out | apply kS | apply kN | apply kD | apply kA)) (KeepBut.of_below hb g none) (.inl rfl)); replace HB := am (below_step (by repeat (with_reducible first | exact HB.out | apply bA | apply bN | apply bD | refine bS ?_ (iG HI0.out))) hb); replace HI0 := am (IsS64.below (by repeat (first | exact HI0.out | apply iA | apply iN | apply iD | apply i1 | apply i2)) hb); clear hb ho51; have hcv52 := own_string (P := Try.prog) Try.underlying22 Try.underlying5 Try.underlying9 (Kd.own_of_R HO479.out)) | (go_at_call 46; (with_reducible refine (spec_l1Cur_pick.calls g s0_0 t475 t476 3 t480 t481 t482 w0 _ ?side1 ?side2 A14.out).mono ?_); (case side1 => repeat (first | exact HI0.out | apply iA | apply iN | apply iD | apply i1 | apply i2)); (case side2 => repeat (with_reducible first | exact HB.out | apply bA | apply bN | apply bD | refine bS ?_ (iG HI0.out))); rintro e w53 ⟨rfl, hi, hb, hk⟩; replace HO479 := am (Kd.R_mono (Kd.R_keep (IsS64.apart (show IsS64 w0 _ g s0_0 t475 t476 from by repeat (first | exact HI0.out | apply iA | apply iN | apply iD | apply i1 | apply i2)) (by (with_reducible repeat (first | apply rA | apply rN | apply rD)); exact HO479.out) (by decide)) hk (fun _ h => h.2)) (fun _ h => h.1)); replace HK := am (KeepBut.trans (by repeat (first | exact HK.out | apply kS | apply kN | apply kD | apply kA)) hk (.inl rfl)); replace HB := am (hb); replace HI0 := am (hi); (try clear hb2); (try clear hb hk hi)))
               repeat (go_quiet (first | (go_at_call 46; (with_reducible refine (spec_l1Cur_pick.calls g s0_0 x1001_1 x1002_1 (x1_1.size : Int) t471 t472 t473 w0 _ ?side1 ?side2 A9.out).mono ?_); (case side1 => repeat (first | exact HI0.out | apply iA | apply iN | apply iD | apply i1 | apply i2)); (case side2 => repeat (with_reducible first | exact HB.out | apply bA | apply bN | apply bD | refine bS ?_ (iG HI0.out))); rintro e w48 ⟨rfl, hi, hb, hk⟩; replace HK := am (KeepBut.trans (by repeat (first | exact HK.out | apply kS | apply kN | apply kD | apply kA)) hk (.inl rfl)); replace HB := am (hb); replace HI0 := am (hi); (try clear hb2); (try clear hb hk hi)) | (go_at_call 46; (with_reducible refine (spec_l1Cur_pick.calls g s0_0 t472 t473 (a2.size : Int) t474 t475 t476 w0 _ ?side1 ?side2 A10.out).mono ?_); (case side1 => repeat (first | exact HI0.out | apply iA | apply iN | apply iD | apply i1 | apply i2)); (case side2 => repeat (with_reducible first | exact HB.out | apply bA | apply bN | apply bD | refine bS ?_ (iG HI0.out))); rintro e w49 ⟨rfl, hi, hb, hk⟩; replace HK := am (KeepBut.trans (by repeat (first | exact HK.out | apply kS | apply kN | apply kD | apply kA)) hk (.inl rfl)); replace HB := am (hb); replace HI0 := am (hi); (try clear hb2); (try clear hb hk hi); have p13 : 0 ≤ (t474 : Int) := ofd (by assumption); have q13 : t474 < (a2.size : Int) := ofd (by assumption); have hx13 := bt_at a2 t474; replace p13 := eq_true p13; replace q13 := eq_true q13) | ((with_reducible refine gate_dst (N := 32) rfl ?_); (try (refine gate_guard (by rfl) ?_; dsimp only)); refine Kd.R_lit (Kd.int .u8) _ 5 ?hg (N := 32) ?hd (xs := ([bt a2 t474] : List Int)) (inner := [.int .u8 (bt a2 t474)]) (ok := fun _ => True) (okp := fun _ => True) ?hr ?hp (fun _ hk => hk) trivial (Below.refl _ _) (Nat.le_refl _) (by simp) ?_; (case hd => rfl); (case hg => rfl); (case hr => first | (go_simp; done) | (go_simp; rfl)); (case hp => exact (Reps.one (show Kd.M (Kd.int .u8) _ _ _ (bt a2 t474) [.int .u8 (bt a2 t474)] from rfl) (Reps.none _ _))); intro v478 w50 ho51 hb hg_ hnew_; clear hg_ hnew_; (first | rw [← Ny477.out] at ho51 | (simp only [Int.reduceToNat] at ho51; rw [← Ny477.out] at ho51)); have HO479 := am (Kd.R_lower ho51 (keep_size (w := w) (g := g) (row := none) (by repeat (first | exact HK.out | apply kS | apply kN | apply kD | apply kA)))); replace HK := am (KeepBut.trans (by repeat (first | exact HK.out | apply kS | apply kN | apply kD | apply kA)) (KeepBut.of_below hb g none) (.inl rfl)); replace HB := am (below_step (by repeat (with_reducible first | exact HB.out | apply bA | apply bN | apply bD | refine bS ?_ (iG HI0.out))) hb); replace HI0 := am (IsS64.below (by repeat (first | exact HI0.out | apply iA | apply iN | apply iD | apply i1 | apply i2)) hb); clear hb ho51; have hcv52 := own_string (P := Try.prog) Try.underlying22 Try.underlying5 Try.underlying9 (Kd.own_of_R HO479.out)) | (go_at_call 46; (with_reducible refine (spec_l1Cur_pick.calls g s0_0 t475 t476 3 t480 t481 t482 w0 _ ?side1 ?side2 A14.out).mono ?_); (case side1 => repeat (first | exact HI0.out | apply iA | apply iN | apply iD | apply i1 | apply i2)); (case side2 => repeat (with_reducible first | exact HB.out | apply bA | apply bN | apply bD | refine bS ?_ (iG HI0.out))); rintro e w53 ⟨rfl, hi, hb, hk⟩; replace HO479 := am (Kd.R_mono (Kd.R_keep (IsS64.apart (show IsS64 w0 _ g s0_0 t475 t476 from by repeat (first | exact HI0.out | apply iA | apply iN | apply iD | apply i1 | apply i2)) (by (with_reducible repeat (first | apply rA | apply rN | apply rD)); exact HO479.out) (by decide)) hk (fun _ h => h.2)) (fun _ h => h.1)); replace HK := am (KeepBut.trans (by repeat (first | exact HK.out | apply kS | apply kN | apply kD | apply kA)) hk (.inl rfl)); replace HB := am (hb); replace HI0 := am (hi); (try clear hb2); (try clear hb hk hi))); try go_wp2_with (first | (go_at_call 46; (with_reducible refine (spec_l1Cur_pick.calls g s0_0 x1001_1 x1002_1 (x1_1.size : Int) t471 t472 t473 w0 _ ?side1 ?side2 A9.out).mono ?_); (case side1 => repeat (first | exact HI0.out | apply iA | apply iN | apply iD | apply i1 | apply i2)); (case side2 => repeat (with_reducible first | exact HB.out | apply bA | apply bN | apply bD | refine bS ?_ (iG HI0.out))); rintro e w48 ⟨rfl, hi, hb, hk⟩; replace HK := am (KeepBut.trans (by repeat (first | exact HK.out | apply kS | apply kN | apply kD | apply kA)) hk (.inl rfl)); replace HB := am (hb); replace HI0 := am (hi); (try clear hb2); (try clear hb hk hi)) | (go_at_call 46; (with_reducible refine (spec_l1Cur_pick.calls g s0_0 t472 t473 (a2.size : Int) t474 t475 t476 w0 _ ?side1 ?side2 A10.out).mono ?_); (case side1 => repeat (first | exact HI0.out | apply iA | apply iN | apply iD | apply i1 | apply i2)); (case side2 => repeat (with_reducible first | exact HB.out | apply bA | apply bN | apply bD | refine bS ?_ (iG HI0.out))); rintro e w49 ⟨rfl, hi, hb, hk⟩; replace HK := am (KeepBut.trans (by repeat (first | exact HK.out | apply kS | apply kN | apply kD | apply kA)) hk (.inl rfl)); replace HB := am (hb); replace HI0 := am (hi); (try clear hb2); (try clear hb hk hi); have p13 : 0 ≤ (t474 : Int) := ofd (by assumption); have q13 : t474 < (a2.size : Int) := ofd (by assumption); have hx13 := bt_at a2 t474; replace p13 := eq_true p13; replace q13 := eq_true q13) | ((with_reducible refine gate_dst (N := 32) rfl ?_); (try (refine gate_guard (by rfl) ?_; dsimp only)); refine Kd.R_lit (Kd.int .u8) _ 5 ?hg (N := 32) ?hd (xs := ([bt a2 t474] : List Int)) (inner := [.int .u8 (bt a2 t474)]) (ok := fun _ => True) (okp := fun _ => True) ?hr ?hp (fun _ hk => hk) trivial (Below.refl _ _) (Nat.le_refl _) (by simp) ?_; (case hd => rfl); (case hg => rfl); (case hr => first | (go_simp; done) | (go_simp; rfl)); (case hp => exact (Reps.one (show Kd.M (Kd.int .u8) _ _ _ (bt a2 t474) [.int .u8 (bt a2 t474)] from rfl) (Reps.none _ _))); intro v478 w50 ho51 hb hg_ hnew_; clear hg_ hnew_; (first | rw [← Ny477.out] at ho51 | (simp only [Int.reduceToNat] at ho51; rw [← Ny477.out] at ho51)); have HO479 := am (Kd.R_lower ho51 (keep_size (w := w) (g := g) (row := none) (by repeat (first | exact HK.out | apply kS | apply kN | apply kD | apply kA)))); replace HK := am (KeepBut.trans (by repeat (first | exact HK.out | apply kS | apply kN | apply kD | apply kA)) (KeepBut.of_below hb g none) (.inl rfl)); replace HB := am (below_step (by repeat (with_reducible first | exact HB.out | apply bA | apply bN | apply bD | refine bS ?_ (iG HI0.out))) hb); replace HI0 := am (IsS64.below (by repeat (first | exact HI0.out | apply iA | apply iN | apply iD | apply i1 | apply i2)) hb); clear hb ho51; have hcv52 := own_string (P := Try.prog) Try.underlying22 Try.underlying5 Try.underlying9 (Kd.own_of_R HO479.out)) | (go_at_call 46; (with_reducible refine (spec_l1Cur_pick.calls g s0_0 t475 t476 3 t480 t481 t482 w0 _ ?side1 ?side2 A14.out).mono ?_); (case side1 => repeat (first | exact HI0.out | apply iA | apply iN | apply iD | apply i1 | apply i2)); (case side2 => repeat (with_reducible first | exact HB.out | apply bA | apply bN | apply bD | refine bS ?_ (iG HI0.out))); rintro e w53 ⟨rfl, hi, hb, hk⟩; replace HO479 := am (Kd.R_mono (Kd.R_keep (IsS64.apart (show IsS64 w0 _ g s0_0 t475 t476 from by repeat (first | exact HI0.out | apply iA | apply iN | apply iD | apply i1 | apply i2)) (by (with_reducible repeat (first | apply rA | apply rN | apply rD)); exact HO479.out) (by decide)) hk (fun _ h => h.2)) (fun _ h => h.1)); replace HK := am (KeepBut.trans (by repeat (first | exact HK.out | apply kS | apply kN | apply kD | apply kA)) hk (.inl rfl)); replace HB := am (hb); replace HI0 := am (hi); (try clear hb2); (try clear hb hk hi))))
               go_roundg kj5
               case measure => have := HK1.out; have := HJ5.out; omega
               case rel => exact ⟨((x1_1.extract 0 (t471 : Int).toNat) ++ (x1_1.extract ((ji44) : Int).toNat x1_1.size)), (wrap64 (x7_1 - 1)), (t481), (t482), (by first | rfl | (simp; done) | (simp only [← hji44] <;> (first | rfl | simp)) | (simp [*]; done)), (by first | rfl | (simp; done) | (simp [*]; done)), H', ⟨by have := HK1.out; have := HJ5.out; omega⟩, ⟨by repeat (first | exact HI0.out | apply iA | apply iN | apply iD | apply i1 | apply i2)⟩, ⟨by repeat (first | exact HK.out | apply kS | apply kN | apply kD | apply kA)⟩, ⟨by repeat (with_reducible first | exact HB.out | apply bA | apply bN | apply bD | refine bS ?_ (iG HI0.out))⟩⟩
              ·rw [if_neg c47] at H
               exact absurd H (by simp)
             ·rw [if_neg c46] at H
              exact absurd H (by simp)
            ·rw [if_neg c45] at H
             exact absurd H (by simp)
           ·rw [if_neg c43] at H
            exact absurd H (by simp)
          ·rw [if_neg c42] at H
           exact absurd H (by simp)
       ·rw [if_neg c12] at H
        exact absurd H (by simp)
      ·rw [if_neg c11] at H
       exact absurd H (by simp)
     ·replace c8 := Bool.eq_false_iff.mpr c8
      subst c8
      have H1 : (some (x1_1, x1001_1, x1002_1)) = some (r1, r2, r3) := by rw [if_neg (show ¬ (false = true) by decide)] at H; exact H
      clear H
      have H := H1
      clear H1
      simp only [Option.some.injEq, Prod.mk.injEq] at H
      obtain ⟨rfl, rfl, rfl⟩ := H
      go_wp2
      repeat (go_quiet (fail); try go_wp2)
      go_ret
      exact ⟨by first | rfl | (simp [*, errW_none, errW_some] <;> rfl), by repeat (first | exact HI0.out | apply iA | apply iN | apply iD | apply i1 | apply i2), by repeat (with_reducible first | exact HB.out | apply bA | apply bN | apply bD | refine bS ?_ (iG HI0.out)), by repeat (first | exact HK.out | apply kS | apply kN | apply kD | apply kA)⟩
def spec_DrawParseMeander_m.f (k : Nat) (s0_0 : List Int) (s0_1 : Int) (s0_2 : Int) : Option (ByteArray × Int × Int) := (spec_l1Cur_pick.f s0_0 s0_1 s0_2 5).bind fun bt483 => ((spec_l1Cur_sure.f k s0_0 bt483.2.1 bt483.2.2 bt483.1).bind fun bt486 => ((spec_l1Cur_sure.f k s0_0 bt486.2.1 bt486.2.2 bt483.1).bind fun bt491 => ((spec_meText.f k bt486.1 bt491.1).bind fun t496 => ((spec_l1Cur_one.f s0_0 bt491.2.1 bt491.2.2 3).bind fun bt497 => (if bt497.1 = true then ((spec_l1Cur_spoilt.f k s0_0 bt497.2.1 bt497.2.2 t496 (⟨#[40, 41, 124]⟩ : ByteArray)).bind fun bt500 => (some (bt500.1, bt500.2.1, bt500.2.2))) else (some (t496, bt497.2.1, bt497.2.2)))))))
def spec_DrawParseMeander.f (k : Nat) (l0 : List Int) : Option (ByteArray) := (spec_DrawParseMeander_m.f k l0 0 0).bind fun t => some (t.1)
theorem spec_DrawParseMeander.calls (k : Nat) (A0 : Option Addr) (c0 : Nat) (s0_0 : List Int) (z_r1 : ByteArray) (w : World) (hr0 : Kd.C (Kd.int .u8) w A0 s0_0.length s0_0) (hc0 : s0_0.length ≤ c0) (h : spec_DrawParseMeander.f k s0_0 = some (z_r1)) :
 Calls Try.prog 33 #[.slice A0 s0_0.length c0] w fun e w' => e = .returned (.string z_r1) ∧ Below w.heap.size w w' := by
 unfold spec_DrawParseMeander.f at h
 obtain ⟨⟨r1, r2, r3⟩, hm_, hx⟩ := Option.bind_eq_some_iff.mp h
 clear h
 simp only [Option.some.injEq, Prod.mk.injEq] at hx
 obtain rfl := hx
 have h := hm_
 clear hm_
 go_enter Try.func33, Try.ntmps33
 go_upto_region 2 with (fail)
 have HBX : Below w.heap.size w (w.alloc (.cells #[.slice A0 s0_0.length c0, .int .i64 0, .int .u64 0] 64)) := below_alloc (Below.refl _ _) _
 have HIX : IsS64 w (w.alloc (.cells #[.slice A0 s0_0.length c0, .int .i64 0, .int .u64 0] 64)) w.heap.size s0_0 0 0 := ⟨A0, c0, (by first | (simp [World.alloc]; done) | exact Array.getElem?_push_size), Nat.le_refl _, hr0⟩
 have HSX : w.heap.size + 1 ≤ (w.alloc (.cells #[.slice A0 s0_0.length c0, .int .i64 0, .int .u64 0] 64)).heap.size := by simp
 generalize (w.alloc (.cells #[.slice A0 s0_0.length c0, .int .i64 0, .int .u64 0] 64)) = wb at HBX HIX HSX ⊢
 have HI0 := am HIX
 have HK := am (KeepBut.refl wb w.heap.size none)
 have HL := am HBX.size
 have HW0 := am HBX.size
 have HBXS : Aside0 (w.heap.size ≤ wb.heap.size) := ⟨HBX.size⟩
 have HB := am HBX
 clear HBX HIX
 have H : ((spec_l1Cur_pick.f s0_0 0 0 5).bind fun bt483 => ((spec_l1Cur_sure.f k s0_0 bt483.2.1 bt483.2.2 bt483.1).bind fun bt486 => ((spec_l1Cur_sure.f k s0_0 bt486.2.1 bt486.2.2 bt483.1).bind fun bt491 => ((spec_meText.f k bt486.1 bt491.1).bind fun t496 => ((spec_l1Cur_one.f s0_0 bt491.2.1 bt491.2.2 3).bind fun bt497 => (if bt497.1 = true then ((spec_l1Cur_spoilt.f k s0_0 bt497.2.1 bt497.2.2 t496 (⟨#[40, 41, 124]⟩ : ByteArray)).bind fun bt500 => (some (bt500.1, bt500.2.1, bt500.2.2))) else (some (t496, bt497.2.1, bt497.2.2)))))))) = some (r1, r2, r3) := h
 clear h
 replace H := Option.bind_eq_some_iff.mp H
 obtain ⟨⟨t483, t484, t485⟩, A20, H⟩ := H
 replace H : ((spec_l1Cur_sure.f k s0_0 t484 t485 t483).bind fun bt486 => ((spec_l1Cur_sure.f k s0_0 bt486.2.1 bt486.2.2 t483).bind fun bt491 => ((spec_meText.f k bt486.1 bt491.1).bind fun t496 => ((spec_l1Cur_one.f s0_0 bt491.2.1 bt491.2.2 3).bind fun bt497 => (if bt497.1 = true then ((spec_l1Cur_spoilt.f k s0_0 bt497.2.1 bt497.2.2 t496 (⟨#[40, 41, 124]⟩ : ByteArray)).bind fun bt500 => (some (bt500.1, bt500.2.1, bt500.2.2))) else (some (t496, bt497.2.1, bt497.2.2))))))) = some (r1, r2, r3) := H
 have A2 := am A20
 clear A20
 replace H := Option.bind_eq_some_iff.mp H
 obtain ⟨⟨t486, t489, t490⟩, A30, H⟩ := H
 replace H : ((spec_l1Cur_sure.f k s0_0 t489 t490 t483).bind fun bt491 => ((spec_meText.f k t486 bt491.1).bind fun t496 => ((spec_l1Cur_one.f s0_0 bt491.2.1 bt491.2.2 3).bind fun bt497 => (if bt497.1 = true then ((spec_l1Cur_spoilt.f k s0_0 bt497.2.1 bt497.2.2 t496 (⟨#[40, 41, 124]⟩ : ByteArray)).bind fun bt500 => (some (bt500.1, bt500.2.1, bt500.2.2))) else (some (t496, bt497.2.1, bt497.2.2)))))) = some (r1, r2, r3) := H
 have A3 := am A30
 clear A30
 replace H := Option.bind_eq_some_iff.mp H
 obtain ⟨⟨t491, t494, t495⟩, A40, H⟩ := H
 replace H : ((spec_meText.f k t486 t491).bind fun t496 => ((spec_l1Cur_one.f s0_0 t494 t495 3).bind fun bt497 => (if bt497.1 = true then ((spec_l1Cur_spoilt.f k s0_0 bt497.2.1 bt497.2.2 t496 (⟨#[40, 41, 124]⟩ : ByteArray)).bind fun bt500 => (some (bt500.1, bt500.2.1, bt500.2.2))) else (some (t496, bt497.2.1, bt497.2.2))))) = some (r1, r2, r3) := H
 have A4 := am A40
 clear A40
 replace H := Option.bind_eq_some_iff.mp H
 obtain ⟨t496, A50, H⟩ := H
 replace H : ((spec_l1Cur_one.f s0_0 t494 t495 3).bind fun bt497 => (if bt497.1 = true then ((spec_l1Cur_spoilt.f k s0_0 bt497.2.1 bt497.2.2 t496 (⟨#[40, 41, 124]⟩ : ByteArray)).bind fun bt500 => (some (bt500.1, bt500.2.1, bt500.2.2))) else (some (t496, bt497.2.1, bt497.2.2)))) = some (r1, r2, r3) := H
 have A5 := am A50
 clear A50
 replace H := Option.bind_eq_some_iff.mp H
 obtain ⟨⟨t497, t498, t499⟩, A60, H⟩ := H
 replace H : (if t497 = true then ((spec_l1Cur_spoilt.f k s0_0 t498 t499 t496 (⟨#[40, 41, 124]⟩ : ByteArray)).bind fun bt500 => (some (bt500.1, bt500.2.1, bt500.2.2))) else (some (t496, t498, t499))) = some (r1, r2, r3) := H
 have A6 := am A60
 clear A60
 by_cases c7 : t497 = true
 ·subst c7
  have H1 : ((spec_l1Cur_spoilt.f k s0_0 t498 t499 t496 (⟨#[40, 41, 124]⟩ : ByteArray)).bind fun bt500 => (some (bt500.1, bt500.2.1, bt500.2.2))) = some (r1, r2, r3) := by rw [if_pos rfl] at H; exact H
  clear H
  have H := H1
  clear H1
  replace H := Option.bind_eq_some_iff.mp H
  obtain ⟨⟨t500, t501, t502⟩, A80, H⟩ := H
  replace H : (some (t500, t501, t502)) = some (r1, r2, r3) := H
  have A8 := am A80
  clear A80
  simp only [Option.some.injEq, Prod.mk.injEq] at H
  obtain ⟨rfl, rfl, rfl⟩ := H
  go_wp2_with (first | ((with_reducible refine gate_callee (f := 46) rfl ?_); refine goesL_ (some 10) rfl rfl Try.func46 (by kernel_rfl) rfl #[.pointer (some ⟨w.heap.size, 0, none⟩), .int .i64 5] rfl (by (try simp only [mT, mC, mZ]); first | done | rfl) ?_; (with_reducible refine (spec_l1Cur_pick.calls w.heap.size s0_0 0 0 5 t483 t484 t485 w _ ?side1 ?side2 A2.out).mono ?_); (case side1 => repeat (first | exact HI0.out | apply iA | apply iN | apply iD | apply i1 | apply i2)); (case side2 => repeat (with_reducible first | exact HB.out | apply bA | apply bN | apply bD | refine bS ?_ (iG HI0.out))); rintro e w9 ⟨rfl, hi, hb, hk⟩; refine ⟨_, rfl, ?_⟩; replace HK := am (KeepBut.trans (by repeat (first | exact HK.out | apply kS | apply kN | apply kD | apply kA)) hk (.inl rfl)); replace HB := am (hb); replace HI0 := am (hi); (try clear hb2); (try clear hb hk hi)) | ((with_reducible refine gate_callee (f := 67) rfl ?_); refine goesL_ (some 13) rfl rfl Try.func67 (by kernel_rfl) rfl #[.pointer (some ⟨w.heap.size, 0, none⟩), .int .i64 t483] rfl (by (try simp only [mT, mC, mZ]); first | done | rfl) ?_; (with_reducible refine (spec_l1Cur_sure.calls k w.heap.size s0_0 t484 t485 t483 t486 t489 t490 w _ ?side1 ?side2 A3.out).mono ?_); (case side1 => repeat (first | exact HI0.out | apply iA | apply iN | apply iD | apply i1 | apply i2)); (case side2 => repeat (with_reducible first | exact HB.out | apply bA | apply bN | apply bD | refine bS ?_ (iG HI0.out))); rintro e w10 ⟨v487, rfl, ho0, hi, hb, hk⟩; refine ⟨_, rfl, ?_⟩; have HO488 := am (Kd.R_lower ho0 (keep_size (w := wb) (g := w.heap.size) (row := none) (by repeat (first | exact HK.out | apply kS | apply kN | apply kD | apply kA)))); replace HK := am (KeepBut.trans (by repeat (first | exact HK.out | apply kS | apply kN | apply kD | apply kA)) hk (.inl rfl)); replace HB := am (hb); replace HI0 := am (hi); (try clear hb2); (try clear hb hk hi); (try clear ho0)) | ((with_reducible refine gate_callee (f := 67) rfl ?_); refine goesL_ (some 16) rfl rfl Try.func67 (by kernel_rfl) rfl #[.pointer (some ⟨w.heap.size, 0, none⟩), .int .i64 t483] rfl (by (try simp only [mT, mC, mZ]); first | done | rfl) ?_; (with_reducible refine (spec_l1Cur_sure.calls k w.heap.size s0_0 t489 t490 t483 t491 t494 t495 w _ ?side1 ?side2 A4.out).mono ?_); (case side1 => repeat (first | exact HI0.out | apply iA | apply iN | apply iD | apply i1 | apply i2)); (case side2 => repeat (with_reducible first | exact HB.out | apply bA | apply bN | apply bD | refine bS ?_ (iG HI0.out))); rintro e w11 ⟨v492, rfl, ho0, hi, hb, hk⟩; refine ⟨_, rfl, ?_⟩; have HO493 := am (Kd.R_lower (Kd.R_new' ho0 (Kd.R_lt (by (with_reducible repeat (first | apply rA | apply rN | apply rD)); exact HO488.out))) (keep_size (w := wb) (g := w.heap.size) (row := none) (by repeat (first | exact HK.out | apply kS | apply kN | apply kD | apply kA)))); replace HO488 := am (Kd.R_mono (Kd.R_told (Kd.R_oldK (IsS64.apart (show IsS64 w _ w.heap.size s0_0 t489 t490 from by repeat (first | exact HI0.out | apply iA | apply iN | apply iD | apply i1 | apply i2)) (by (with_reducible repeat (first | apply rA | apply rN | apply rD)); exact HO488.out) (by decide)) hk) (Kd.R_base ho0)) (fun _ h_ => h_.1)); replace HK := am (KeepBut.trans (by repeat (first | exact HK.out | apply kS | apply kN | apply kD | apply kA)) hk (.inl rfl)); replace HB := am (hb); replace HI0 := am (hi); (try clear hb2); (try clear hb hk hi); (try clear ho0); obtain ⟨Ao12, co12, eo12⟩ := Kd.R_slice HO493.out; subst eo12; obtain ⟨Ao13, co13, eo13⟩ := Kd.R_slice HO488.out; subst eo13) | ((with_reducible refine gate_callee (f := 66) rfl ?_); refine goesL_ (some 18) rfl rfl Try.func66 (by kernel_rfl) rfl #[.agg #[.slice Ao13 t486.length co13, .slice Ao12 t491.length co12]] rfl (by (try simp only [mT, mC, mZ]); first | done | rfl) ?_; (with_reducible refine (spec_meText.calls k _ _ t486 _ _ t491 t496 _ ?side1 ?side2 ?side3 ?side4 A5.out).mono ?_); (case side1 => repeat (first | exact (Kd.R_reads' HO488.out).2.2 | (with_reducible first | apply cA | apply cN | apply cD))); (case side2 => exact (Kd.R_reads' HO488.out).2.1); (case side3 => repeat (first | exact (Kd.R_reads' HO493.out).2.2 | (with_reducible first | apply cA | apply cN | apply cD))); (case side4 => exact (Kd.R_reads' HO493.out).2.1); rintro e w14 ⟨rfl, hb⟩; refine ⟨_, rfl, ?_⟩; replace HO488 := am (Kd.R_below (by (with_reducible repeat (first | apply rA | apply rN | apply rD)); exact HO488.out) hb); replace HO493 := am (Kd.R_below (by (with_reducible repeat (first | apply rA | apply rN | apply rD)); exact HO493.out) hb); replace HK := am (KeepBut.trans (by repeat (first | exact HK.out | apply kS | apply kN | apply kD | apply kA)) (KeepBut.of_below hb w.heap.size none) (.inl rfl)); replace HB := am (below_step (by repeat (with_reducible first | exact HB.out | apply bA | apply bN | apply bD | refine bS ?_ (iG HI0.out))) hb); replace HI0 := am (IsS64.below (by repeat (first | exact HI0.out | apply iA | apply iN | apply iD | apply i1 | apply i2)) hb); (try clear hb2); (try clear hb hk hi)) | ((with_reducible refine gate_callee (f := 55) rfl ?_); refine goesL_ (some 20) rfl rfl Try.func55 (by kernel_rfl) rfl #[.pointer (some ⟨w.heap.size, 0, none⟩), .int .i64 3] rfl (by (try simp only [mT, mC, mZ]); first | done | rfl) ?_; (with_reducible refine (spec_l1Cur_one.calls w.heap.size s0_0 t494 t495 3 true t498 t499 w _ ?side1 ?side2 A6.out).mono ?_); (case side1 => repeat (first | exact HI0.out | apply iA | apply iN | apply iD | apply i1 | apply i2)); (case side2 => repeat (with_reducible first | exact HB.out | apply bA | apply bN | apply bD | refine bS ?_ (iG HI0.out))); rintro e w15 ⟨rfl, hi, hb, hk⟩; refine ⟨_, rfl, ?_⟩; replace HO488 := am (Kd.R_mono (Kd.R_keep (IsS64.apart (show IsS64 w _ w.heap.size s0_0 t494 t495 from by repeat (first | exact HI0.out | apply iA | apply iN | apply iD | apply i1 | apply i2)) (by (with_reducible repeat (first | apply rA | apply rN | apply rD)); exact HO488.out) (by decide)) hk (fun _ h => h.2)) (fun _ h => h.1)); replace HO493 := am (Kd.R_mono (Kd.R_keep (IsS64.apart (show IsS64 w _ w.heap.size s0_0 t494 t495 from by repeat (first | exact HI0.out | apply iA | apply iN | apply iD | apply i1 | apply i2)) (by (with_reducible repeat (first | apply rA | apply rN | apply rD)); exact HO493.out) (by decide)) hk (fun _ h => h.2)) (fun _ h => h.1)); replace HK := am (KeepBut.trans (by repeat (first | exact HK.out | apply kS | apply kN | apply kD | apply kA)) hk (.inl rfl)); replace HB := am (hb); replace HI0 := am (hi); (try clear hb2); (try clear hb hk hi)) | ((with_reducible refine gate_callee (f := 68) rfl ?_); refine goesL_ (some 23) rfl rfl Try.func68 (by kernel_rfl) rfl #[.pointer (some ⟨w.heap.size, 0, none⟩), .string t496, .string (⟨#[40, 41, 124]⟩ : ByteArray)] rfl (by (try simp only [mT, mC, mZ]); first | done | rfl) ?_; (with_reducible refine (spec_l1Cur_spoilt.calls k w.heap.size s0_0 t498 t499 t496 (⟨#[40, 41, 124]⟩ : ByteArray) t500 t501 t502 w _ ?side1 ?side2 A8.out).mono ?_); (case side1 => repeat (first | exact HI0.out | apply iA | apply iN | apply iD | apply i1 | apply i2)); (case side2 => repeat (with_reducible first | exact HB.out | apply bA | apply bN | apply bD | refine bS ?_ (iG HI0.out))); rintro e w16 ⟨rfl, hi, hb, hk⟩; refine ⟨_, rfl, ?_⟩; replace HO488 := am (Kd.R_mono (Kd.R_keep (IsS64.apart (show IsS64 w _ w.heap.size s0_0 t498 t499 from by repeat (first | exact HI0.out | apply iA | apply iN | apply iD | apply i1 | apply i2)) (by (with_reducible repeat (first | apply rA | apply rN | apply rD)); exact HO488.out) (by decide)) hk (fun _ h => h.2)) (fun _ h => h.1)); replace HO493 := am (Kd.R_mono (Kd.R_keep (IsS64.apart (show IsS64 w _ w.heap.size s0_0 t498 t499 from by repeat (first | exact HI0.out | apply iA | apply iN | apply iD | apply i1 | apply i2)) (by (with_reducible repeat (first | apply rA | apply rN | apply rD)); exact HO493.out) (by decide)) hk (fun _ h => h.2)) (fun _ h => h.1)); replace HK := am (KeepBut.trans (by repeat (first | exact HK.out | apply kS | apply kN | apply kD | apply kA)) hk (.inl rfl)); replace HB := am (hb); replace HI0 := am (hi); (try clear hb2); (try clear hb hk hi)))
  go_ret
  exact ⟨by first | rfl | (simp [*, errW_none, errW_some] <;> rfl), by repeat (with_reducible first | exact HB.out | apply bA | apply bN | apply bD | refine bS ?_ (iG HI0.out))⟩
 ·replace c7 := Bool.eq_false_iff.mpr c7
  subst c7
  have H1 : (some (t496, t498, t499)) = some (r1, r2, r3) := by rw [if_neg (show ¬ (false = true) by decide)] at H; exact H
  clear H
  have H := H1
  clear H1
  simp only [Option.some.injEq, Prod.mk.injEq] at H
  obtain ⟨rfl, rfl, rfl⟩ := H
  go_wp2_with (first | ((with_reducible refine gate_callee (f := 46) rfl ?_); refine goesL_ (some 10) rfl rfl Try.func46 (by kernel_rfl) rfl #[.pointer (some ⟨w.heap.size, 0, none⟩), .int .i64 5] rfl (by (try simp only [mT, mC, mZ]); first | done | rfl) ?_; (with_reducible refine (spec_l1Cur_pick.calls w.heap.size s0_0 0 0 5 t483 t484 t485 w _ ?side1 ?side2 A2.out).mono ?_); (case side1 => repeat (first | exact HI0.out | apply iA | apply iN | apply iD | apply i1 | apply i2)); (case side2 => repeat (with_reducible first | exact HB.out | apply bA | apply bN | apply bD | refine bS ?_ (iG HI0.out))); rintro e w17 ⟨rfl, hi, hb, hk⟩; refine ⟨_, rfl, ?_⟩; replace HK := am (KeepBut.trans (by repeat (first | exact HK.out | apply kS | apply kN | apply kD | apply kA)) hk (.inl rfl)); replace HB := am (hb); replace HI0 := am (hi); (try clear hb2); (try clear hb hk hi)) | ((with_reducible refine gate_callee (f := 67) rfl ?_); refine goesL_ (some 13) rfl rfl Try.func67 (by kernel_rfl) rfl #[.pointer (some ⟨w.heap.size, 0, none⟩), .int .i64 t483] rfl (by (try simp only [mT, mC, mZ]); first | done | rfl) ?_; (with_reducible refine (spec_l1Cur_sure.calls k w.heap.size s0_0 t484 t485 t483 t486 t489 t490 w _ ?side1 ?side2 A3.out).mono ?_); (case side1 => repeat (first | exact HI0.out | apply iA | apply iN | apply iD | apply i1 | apply i2)); (case side2 => repeat (with_reducible first | exact HB.out | apply bA | apply bN | apply bD | refine bS ?_ (iG HI0.out))); rintro e w18 ⟨v487, rfl, ho0, hi, hb, hk⟩; refine ⟨_, rfl, ?_⟩; have HO488 := am (Kd.R_lower ho0 (keep_size (w := wb) (g := w.heap.size) (row := none) (by repeat (first | exact HK.out | apply kS | apply kN | apply kD | apply kA)))); replace HK := am (KeepBut.trans (by repeat (first | exact HK.out | apply kS | apply kN | apply kD | apply kA)) hk (.inl rfl)); replace HB := am (hb); replace HI0 := am (hi); (try clear hb2); (try clear hb hk hi); (try clear ho0)) | ((with_reducible refine gate_callee (f := 67) rfl ?_); refine goesL_ (some 16) rfl rfl Try.func67 (by kernel_rfl) rfl #[.pointer (some ⟨w.heap.size, 0, none⟩), .int .i64 t483] rfl (by (try simp only [mT, mC, mZ]); first | done | rfl) ?_; (with_reducible refine (spec_l1Cur_sure.calls k w.heap.size s0_0 t489 t490 t483 t491 t494 t495 w _ ?side1 ?side2 A4.out).mono ?_); (case side1 => repeat (first | exact HI0.out | apply iA | apply iN | apply iD | apply i1 | apply i2)); (case side2 => repeat (with_reducible first | exact HB.out | apply bA | apply bN | apply bD | refine bS ?_ (iG HI0.out))); rintro e w19 ⟨v492, rfl, ho0, hi, hb, hk⟩; refine ⟨_, rfl, ?_⟩; have HO493 := am (Kd.R_lower (Kd.R_new' ho0 (Kd.R_lt (by (with_reducible repeat (first | apply rA | apply rN | apply rD)); exact HO488.out))) (keep_size (w := wb) (g := w.heap.size) (row := none) (by repeat (first | exact HK.out | apply kS | apply kN | apply kD | apply kA)))); replace HO488 := am (Kd.R_mono (Kd.R_told (Kd.R_oldK (IsS64.apart (show IsS64 w _ w.heap.size s0_0 t489 t490 from by repeat (first | exact HI0.out | apply iA | apply iN | apply iD | apply i1 | apply i2)) (by (with_reducible repeat (first | apply rA | apply rN | apply rD)); exact HO488.out) (by decide)) hk) (Kd.R_base ho0)) (fun _ h_ => h_.1)); replace HK := am (KeepBut.trans (by repeat (first | exact HK.out | apply kS | apply kN | apply kD | apply kA)) hk (.inl rfl)); replace HB := am (hb); replace HI0 := am (hi); (try clear hb2); (try clear hb hk hi); (try clear ho0); obtain ⟨Ao20, co20, eo20⟩ := Kd.R_slice HO493.out; subst eo20; obtain ⟨Ao21, co21, eo21⟩ := Kd.R_slice HO488.out; subst eo21) | ((with_reducible refine gate_callee (f := 66) rfl ?_); refine goesL_ (some 18) rfl rfl Try.func66 (by kernel_rfl) rfl #[.agg #[.slice Ao21 t486.length co21, .slice Ao20 t491.length co20]] rfl (by (try simp only [mT, mC, mZ]); first | done | rfl) ?_; (with_reducible refine (spec_meText.calls k _ _ t486 _ _ t491 t496 _ ?side1 ?side2 ?side3 ?side4 A5.out).mono ?_); (case side1 => repeat (first | exact (Kd.R_reads' HO488.out).2.2 | (with_reducible first | apply cA | apply cN | apply cD))); (case side2 => exact (Kd.R_reads' HO488.out).2.1); (case side3 => repeat (first | exact (Kd.R_reads' HO493.out).2.2 | (with_reducible first | apply cA | apply cN | apply cD))); (case side4 => exact (Kd.R_reads' HO493.out).2.1); rintro e w22 ⟨rfl, hb⟩; refine ⟨_, rfl, ?_⟩; replace HO488 := am (Kd.R_below (by (with_reducible repeat (first | apply rA | apply rN | apply rD)); exact HO488.out) hb); replace HO493 := am (Kd.R_below (by (with_reducible repeat (first | apply rA | apply rN | apply rD)); exact HO493.out) hb); replace HK := am (KeepBut.trans (by repeat (first | exact HK.out | apply kS | apply kN | apply kD | apply kA)) (KeepBut.of_below hb w.heap.size none) (.inl rfl)); replace HB := am (below_step (by repeat (with_reducible first | exact HB.out | apply bA | apply bN | apply bD | refine bS ?_ (iG HI0.out))) hb); replace HI0 := am (IsS64.below (by repeat (first | exact HI0.out | apply iA | apply iN | apply iD | apply i1 | apply i2)) hb); (try clear hb2); (try clear hb hk hi)) | ((with_reducible refine gate_callee (f := 55) rfl ?_); refine goesL_ (some 20) rfl rfl Try.func55 (by kernel_rfl) rfl #[.pointer (some ⟨w.heap.size, 0, none⟩), .int .i64 3] rfl (by (try simp only [mT, mC, mZ]); first | done | rfl) ?_; (with_reducible refine (spec_l1Cur_one.calls w.heap.size s0_0 t494 t495 3 false t498 t499 w _ ?side1 ?side2 A6.out).mono ?_); (case side1 => repeat (first | exact HI0.out | apply iA | apply iN | apply iD | apply i1 | apply i2)); (case side2 => repeat (with_reducible first | exact HB.out | apply bA | apply bN | apply bD | refine bS ?_ (iG HI0.out))); rintro e w23 ⟨rfl, hi, hb, hk⟩; refine ⟨_, rfl, ?_⟩; replace HO488 := am (Kd.R_mono (Kd.R_keep (IsS64.apart (show IsS64 w _ w.heap.size s0_0 t494 t495 from by repeat (first | exact HI0.out | apply iA | apply iN | apply iD | apply i1 | apply i2)) (by (with_reducible repeat (first | apply rA | apply rN | apply rD)); exact HO488.out) (by decide)) hk (fun _ h => h.2)) (fun _ h => h.1)); replace HO493 := am (Kd.R_mono (Kd.R_keep (IsS64.apart (show IsS64 w _ w.heap.size s0_0 t494 t495 from by repeat (first | exact HI0.out | apply iA | apply iN | apply iD | apply i1 | apply i2)) (by (with_reducible repeat (first | apply rA | apply rN | apply rD)); exact HO493.out) (by decide)) hk (fun _ h => h.2)) (fun _ h => h.1)); replace HK := am (KeepBut.trans (by repeat (first | exact HK.out | apply kS | apply kN | apply kD | apply kA)) hk (.inl rfl)); replace HB := am (hb); replace HI0 := am (hi); (try clear hb2); (try clear hb hk hi)))
  go_ret
  exact ⟨by first | rfl | (simp [*, errW_none, errW_some] <;> rfl), by repeat (with_reducible first | exact HB.out | apply bA | apply bN | apply bD | refine bS ?_ (iG HI0.out))⟩
def stringslite_IndexByte.f (a0 : ByteArray) (a1 : Int) : Option Int := some (Go.Lib.indexByte a0.data.toList a1.toNat.toUInt8)
set_option maxHeartbeats 1000000 in
set_option maxRecDepth 100000 in
theorem stringslite_IndexByte.calls (a0 : ByteArray) (a1 : Int) (r : Int) (w : World) (h : stringslite_IndexByte.f a0 a1 = some r) :
 Calls Try.prog 94 #[.string a0, .int .u8 a1] w fun e w' => e = .returned (.int .i64 r) ∧ Drawn0 w w' := by
 obtain rfl := Option.some.inj h
 go_enter Try.func94, Try.ntmps94
 go_wp2
 rw [run_callFunc_extern Try.func98 (by kernel_rfl) (by kernel_rfl) (by kernel_rfl) (e := Go.Extern.BytealgIndexByte.indexByte) (by kernel_rfl), Go.Lib.run_indexByteString]
 simp only [Result.andThen]
 rw [Oper.upon_value]
 go_wp2
 go_ret
 exact ⟨rfl, Drawn0.refl _⟩
def bytealg_Cutover.f (a0 : Int) : Option (Int) := some (wrap64 (Int.tdiv (wrap64 (a0 + 16)) 8))
mutual
def bytealg_hashStr_string.l0 : Nat → ByteArray → Int → Int → Option (Int × Int)
 | 0, _, _, _ => none
 | k + 1, x0, x4, x5 => if x5 < (x0.size : Int) then (if 0 ≤ x5 then (bytealg_hashStr_string.l0 k x0 ((((x4 * 16777619) % 4294967296) + ((bt x0 x5) % 4294967296)) % 4294967296) (wrap64 (x5 + 1))) else (none)) else (bytealg_hashStr_string.l1 k x4 1 16777619 (x0.size : Int))
def bytealg_hashStr_string.l1 : Nat → Int → Int → Int → Int → Option (Int × Int)
 | 0, _, _, _, _ => none
 | k + 1, x4, x6, x7, x8 => if x8 > 0 then (if (Go.bits .and .i64 x8 1) = 0 then (bytealg_hashStr_string.l1 k x4 x6 ((x7 * x7) % 4294967296) (x8 / 2)) else (bytealg_hashStr_string.l1 k x4 ((x6 * x7) % 4294967296) ((x7 * x7) % 4294967296) (x8 / 2))) else (some (x4, x6))
end
def bytealg_hashStr_string.f (k : Nat) (a0 : ByteArray) : Option (Int × Int) := bytealg_hashStr_string.l0 k a0 0 0
def bytealg_IndexRabinKarp_string.f (a0 : ByteArray) (a1 : ByteArray) : Option Int := none
def stringslite_Index.f (a0 a1 : ByteArray) : Option Int := if a1.size = 1 then some (Go.Lib.indexByte a0.data.toList (a1.data.toList.headD 0)) else none
theorem stringslite_Index.one (a1 : ByteArray) (h : a1.size = 1) : ∃ c : UInt8, a1 = ⟨#[c]⟩ := by
 rcases a1 with ⟨⟨l⟩⟩
 match l, h with
 | [c], _ => exact ⟨c, rfl⟩
set_option maxHeartbeats 2000000 in
set_option maxRecDepth 100000 in
theorem stringslite_Index.calls_one (s : ByteArray) (c : UInt8) (w : World) :
 Calls Try.prog 91 #[.string s, .string ⟨#[c]⟩] w fun e w' => e = .returned (.int .i64 (Go.Lib.indexByte s.data.toList c)) ∧ Drawn0 w w' := by
 go_enter Try.func91, Try.ntmps91
 go_wp2_with (go_at_call 94; refine (stringslite_IndexByte.calls _ _ _ _ rfl).mono ?_; rintro e w' ⟨rfl, hd⟩)
 ·have h : ([c] == s.toList) = true := by assumption
  go_ret
  refine ⟨?_, Drawn0.refl _⟩
  have e : s.data.toList = [c] := by rw [← Go.Lib.toList_data]; exact (beq_iff_eq.1 h).symm
  rw [e]
  simp [Go.Lib.indexByte]
 ·go_ret
  exact ⟨rfl, hd⟩
theorem stringslite_Index.calls (a0 : ByteArray) (a1 : ByteArray) (r : Int) (w : World) (h : stringslite_Index.f a0 a1 = some r) :
 Calls Try.prog 91 #[.string a0, .string a1] w fun e w' => e = .returned (.int .i64 r) ∧ Drawn0 w w' := by
 unfold stringslite_Index.f at h
 by_cases h1 : a1.size = 1
 ·rw [if_pos h1] at h
  obtain rfl := Option.some.inj h
  obtain ⟨c, rfl⟩ := stringslite_Index.one a1 h1
  exact stringslite_Index.calls_one a0 c w
 ·rw [if_neg h1] at h
  cases h
def stringslite_Cut.f (a0 : ByteArray) (a1 : ByteArray) : Option (ByteArray × ByteArray × Bool) := (stringslite_Index.f a0 a1).bind fun t503 => (if t503 ≥ 0 then (if 0 ≤ t503 then (if t503 ≤ (a0.size : Int) then (if 0 ≤ (wrap64 (t503 + (a1.size : Int))) then (if (wrap64 (t503 + (a1.size : Int))) ≤ (a0.size : Int) then (some (a0.extract 0 (t503 : Int).toNat, a0.extract ((wrap64 (t503 + (a1.size : Int))) : Int).toNat a0.size, true)) else (none)) else (none)) else (none)) else (none)) else (some (a0, (⟨#[]⟩ : ByteArray), false)))
theorem stringslite_Cut.calls (a0 : ByteArray) (a1 : ByteArray) (r1 : ByteArray) (r2 : ByteArray) (r3 : Bool) (w : World) (h : stringslite_Cut.f a0 a1 = some (r1, r2, r3)) :
 Calls Try.prog 87 #[.string a0, .string a1] w fun e w' => e = .returned (.tuple #[.string r1, .string r2, .bool r3]) ∧ Drawn0 w w' := by
 have H : ((stringslite_Index.f a0 a1).bind fun t503 => (if t503 ≥ 0 then (if 0 ≤ t503 then (if t503 ≤ (a0.size : Int) then (if 0 ≤ (wrap64 (t503 + (a1.size : Int))) then (if (wrap64 (t503 + (a1.size : Int))) ≤ (a0.size : Int) then (some (a0.extract 0 (t503 : Int).toNat, a0.extract ((wrap64 (t503 + (a1.size : Int))) : Int).toNat a0.size, true)) else (none)) else (none)) else (none)) else (none)) else (some (a0, (⟨#[]⟩ : ByteArray), false)))) = some (r1, r2, r3) := h
 clear h
 replace H := Option.bind_eq_some_iff.mp H
 obtain ⟨t503, A30, H⟩ := H
 replace H : (if t503 ≥ 0 then (if 0 ≤ t503 then (if t503 ≤ (a0.size : Int) then (if 0 ≤ (wrap64 (t503 + (a1.size : Int))) then (if (wrap64 (t503 + (a1.size : Int))) ≤ (a0.size : Int) then (some (a0.extract 0 (t503 : Int).toNat, a0.extract ((wrap64 (t503 + (a1.size : Int))) : Int).toNat a0.size, true)) else (none)) else (none)) else (none)) else (none)) else (some (a0, (⟨#[]⟩ : ByteArray), false))) = some (r1, r2, r3) := H
 have A3 := am A30
 clear A30
 by_cases c4 : t503 ≥ 0
 ·rw [if_pos c4] at H
  have c4b0 : decide (0 ≤ t503) = true := decide_eq_true c4
  clear c4
  by_cases c5 : 0 ≤ t503
  ·rw [if_pos c5] at H
   have c5b0 := eq_true c5
   have c5b1 : decide (0 ≤ t503) = true := decide_eq_true c5
   clear c5
   by_cases c6 : t503 ≤ (a0.size : Int)
   ·rw [if_pos c6] at H
    have c6b0 := eq_true c6
    have c6b1 : decide (t503 ≤ (a0.size : Int)) = true := decide_eq_true c6
    clear c6
    obtain ⟨ji7, hji7⟩ : ∃ j_ : Int, (wrap64 (t503 + (a1.size : Int))) = j_ := ⟨_, rfl⟩
    replace H : (if 0 ≤ (ji7) then (if (ji7) ≤ (a0.size : Int) then (some (a0.extract 0 (t503 : Int).toNat, a0.extract ((ji7) : Int).toNat a0.size, true)) else (none)) else (none)) = some (r1, r2, r3) := by first | (rw [hji7] at H; exact H) | (simp only [hji7] at H ⊢; exact H)
    (try rw [hji7] at A3)
    have hji7w : (IntKind.i64.wrap (t503 + (a1.size : Int))) = ji7 := (i64_w _).trans hji7
    by_cases c8 : 0 ≤ (ji7)
    ·rw [if_pos c8] at H
     have c8b0 := eq_true c8
     have c8b1 : decide (0 ≤ (ji7)) = true := decide_eq_true c8
     clear c8
     by_cases c9 : (ji7) ≤ (a0.size : Int)
     ·rw [if_pos c9] at H
      have c9b0 := eq_true c9
      have c9b1 : decide ((ji7) ≤ (a0.size : Int)) = true := decide_eq_true c9
      clear c9
      simp only [Option.some.injEq, Prod.mk.injEq] at H
      obtain ⟨rfl, rfl, rfl⟩ := H
      go_enter Try.func87, Try.ntmps87
      go_wp2_with (first | (go_at_call 91; (with_reducible refine (stringslite_Index.calls a0 a1 t503 _ A3.out).mono ?_); rintro e w' ⟨rfl, ⟨nd, rfl⟩⟩; (try first | exact ⟨rfl, _, World.drewN_drewN _ _ _⟩ | exact ⟨rfl, _, Eq.trans (World.drewN_drewN _ _ _) (congrArg (World.drewN _) (Nat.add_assoc _ _ _))⟩)))
      repeat (go_quiet (first | (go_at_call 91; (with_reducible refine (stringslite_Index.calls a0 a1 t503 _ A3.out).mono ?_); rintro e w' ⟨rfl, ⟨nd, rfl⟩⟩; (try first | exact ⟨rfl, _, World.drewN_drewN _ _ _⟩ | exact ⟨rfl, _, Eq.trans (World.drewN_drewN _ _ _) (congrArg (World.drewN _) (Nat.add_assoc _ _ _))⟩))); try go_wp2_with (first | (go_at_call 91; (with_reducible refine (stringslite_Index.calls a0 a1 t503 _ A3.out).mono ?_); rintro e w' ⟨rfl, ⟨nd, rfl⟩⟩; (try first | exact ⟨rfl, _, World.drewN_drewN _ _ _⟩ | exact ⟨rfl, _, Eq.trans (World.drewN_drewN _ _ _) (congrArg (World.drewN _) (Nat.add_assoc _ _ _))⟩))))
      go_ret3
      exact ⟨by first | rfl | (simp; done) | (simp only [← hji7] <;> (first | rfl | simp)) | (simp [*]; done), by repeat (first | exact Drawn0.refl _ | apply Drawn0.step)⟩
     ·rw [if_neg c9] at H
      exact absurd H (by simp)
    ·rw [if_neg c8] at H
     exact absurd H (by simp)
   ·rw [if_neg c6] at H
    exact absurd H (by simp)
  ·rw [if_neg c5] at H
   exact absurd H (by simp)
 ·rw [if_neg c4] at H
  have c4b0 : decide (0 ≤ t503) = false := decide_eq_false c4
  clear c4
  simp only [Option.some.injEq, Prod.mk.injEq] at H
  obtain ⟨rfl, rfl, rfl⟩ := H
  go_enter Try.func87, Try.ntmps87
  go_wp2_with (first | (go_at_call 91; (with_reducible refine (stringslite_Index.calls a0 a1 t503 _ A3.out).mono ?_); rintro e w' ⟨rfl, ⟨nd, rfl⟩⟩; (try first | exact ⟨rfl, _, World.drewN_drewN _ _ _⟩ | exact ⟨rfl, _, Eq.trans (World.drewN_drewN _ _ _) (congrArg (World.drewN _) (Nat.add_assoc _ _ _))⟩)))
  repeat (go_quiet (first | (go_at_call 91; (with_reducible refine (stringslite_Index.calls a0 a1 t503 _ A3.out).mono ?_); rintro e w' ⟨rfl, ⟨nd, rfl⟩⟩; (try first | exact ⟨rfl, _, World.drewN_drewN _ _ _⟩ | exact ⟨rfl, _, Eq.trans (World.drewN_drewN _ _ _) (congrArg (World.drewN _) (Nat.add_assoc _ _ _))⟩))); try go_wp2_with (first | (go_at_call 91; (with_reducible refine (stringslite_Index.calls a0 a1 t503 _ A3.out).mono ?_); rintro e w' ⟨rfl, ⟨nd, rfl⟩⟩; (try first | exact ⟨rfl, _, World.drewN_drewN _ _ _⟩ | exact ⟨rfl, _, Eq.trans (World.drewN_drewN _ _ _) (congrArg (World.drewN _) (Nat.add_assoc _ _ _))⟩))))
  go_ret3
  exact ⟨by first | rfl | (simp; done) | (simp [*]; done), by repeat (first | exact Drawn0.refl _ | apply Drawn0.step)⟩
def strings_Cut.f (a0 : ByteArray) (a1 : ByteArray) : Option (ByteArray × ByteArray × Bool) := (stringslite_Cut.f a0 a1).bind fun bt504 => (some (bt504.1, bt504.2.1, bt504.2.2))
theorem strings_Cut.calls (a0 : ByteArray) (a1 : ByteArray) (r1 : ByteArray) (r2 : ByteArray) (r3 : Bool) (w : World) (h : strings_Cut.f a0 a1 = some (r1, r2, r3)) :
 Calls Try.prog 69 #[.string a0, .string a1] w fun e w' => e = .returned (.tuple #[.string r1, .string r2, .bool r3]) ∧ Drawn0 w w' := by
 have H : ((stringslite_Cut.f a0 a1).bind fun bt504 => (some (bt504.1, bt504.2.1, bt504.2.2))) = some (r1, r2, r3) := h
 clear h
 replace H := Option.bind_eq_some_iff.mp H
 obtain ⟨⟨t504, t505, t506⟩, A30, H⟩ := H
 replace H : (some (t504, t505, t506)) = some (r1, r2, r3) := H
 have A3 := am A30
 clear A30
 simp only [Option.some.injEq, Prod.mk.injEq] at H
 obtain ⟨rfl, rfl, rfl⟩ := H
 go_enter Try.func69, Try.ntmps69
 go_wp2_with (first | ((with_reducible refine gate_callee (f := 87) rfl ?_); refine goesL_ (some 9) rfl rfl Try.func87 (by kernel_rfl) rfl #[.string a0, .string a1] rfl (by (try simp only [mT, mC, mZ]); first | done | rfl) ?_; (with_reducible refine (stringslite_Cut.calls a0 a1 t504 t505 t506 _ A3.out).mono ?_); rintro e w' ⟨rfl, ⟨nd, rfl⟩⟩; refine ⟨_, rfl, ?_⟩))
 go_ret3
 exact ⟨by first | rfl | (simp; done) | (simp [*]; done), by repeat (first | exact Drawn0.refl _ | apply Drawn0.step)⟩
end Go.Proofs.Ytfencncopkeobaa.QFnPairsMoved
